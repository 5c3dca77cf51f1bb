import PyProof.Rows.All
import Wide.All
import OpenK.AllK
import Wide.FinOn
import KE.KStateDown
import HandS.ForMost
import HandS.Walk
import HandS.Defaults
import HandS.Ends
import HandS.More
import HandS.Words
import HandS.WordsExc
import HandS.ExcField
import HandS.Head0
import HandS.Head1
import HandS.Head2
import HandS.HeadEnd
import HandS.HeadHook1
import HandS.HeadHook2
import HandS.HeadHook4
import HandS.EndTab
import KE.KDictKeyed
import KE.KeyNested
import HandS.Conv
import HandS.DictComp
import HandS.TupAny
import HandS.IsInst
import HandS.Sort
import KE.DatumOrd
import HandS.TryOnly
import HandS.Style
import HandS.Zip
import HandS.Comp
import HandS.ListItems
import HandS.Iter
import KE.GoesNew
import KE.GoesMore
import HandS.SortRule
import KE.SortData
import HandS.TupSets
import KE.KOpsOwn
import HandS.SlotsOwn
import KE.GoesEnum
import HandS.Lambda
import HandS.ExcInit
import HandS.TryMany
import HandS.ClsMeth
import PySem.Challenge.RW_allbids_k52_whole_units_never_less
set_option Elab.async false
set_option linter.all false
set_option autoImplicit false
set_option maxRecDepth 100000
/-! law_k52_whole_units_never_less: the head, run in the kernel; the walk of the program and of the law over a layer of plain data (values as trees, owned mutable objects); the plain law. -/
set_option maxHeartbeats 0
namespace AB
open PySem PySem.Spec PyProof.Rows L2
/-! ### the text and the head: what the top leaves -/
abbrev topL : List Stmt := PySem.Challenge.pw_allbids_k52_whole_units_never_less.main.body
def topS (i : Nat) : Stmt := topL.getD i (.Pass ⟨0, 0, 0, 0⟩)
def clsBody : Stmt → List Stmt
  | .ClassDef (body := b) .. => b
  | _ => []
def mS (i j : Nat) : Stmt := (clsBody (topS i)).getD j (.Pass ⟨0, 0, 0, 0⟩)
def dFn (x nm : Str) (st : Stmt) : He.DefD := ⟨(x, none), nm, nm, defArgs st, defBody st, defScope st, [], []⟩
def dMt (C m nm q : Str) (st : Stmt) : He.DefD := ⟨(C, some m), nm, q, defArgs st, defBody st, defScope st, [], []⟩
def fnL : List He.DefD := [dFn "is_whole" "is_whole" (topS 9),
  dFn "is_ratio" "is_ratio" (topS 10),
  dFn "divisor" "divisor" (topS 11),
  dFn "lowest" "lowest" (topS 12),
  dFn "told" "told" (topS 13),
  dFn "bottom_of" "bottom_of" (topS 14),
  dFn "need_kinds_likeness" "need_kinds" (topS 18),
  dFn "common_divisor" "common_divisor" (topS 20),
  dFn "scale_of" "scale_of" (topS 21),
  dFn "whole_rows" "whole_rows" (topS 22),
  dFn "price_tuple" "price_tuple" (topS 23),
  dFn "stops_of" "stops_of" (topS 24),
  dFn "orders_of" "orders_of" (topS 25),
  dFn "corners_of" "corners_of" (topS 26),
  dFn "offsets_of" "offsets_of" (topS 27),
  dFn "units_taken" "units_taken" (topS 28),
  dFn "takes_no_less" "takes_no_less" (topS 29),
  dFn "need_kinds_bids" "need_kinds" (topS 32),
  dFn "is_price_row" "is_price_row" (topS 34),
  dFn "is_bid" "is_bid" (topS 35),
  dFn "plain_rows" "plain_rows" (topS 36),
  dFn "_law_pen" "_law_pen" (topS 39),
  dFn "_law_draw" "_law_draw" (topS 40),
  dFn "_law_pick" "_law_pick" (topS 41),
  dFn "_law_is_whole" "_law_is_whole" (topS 42),
  dFn "_law_gcd" "_law_gcd" (topS 43),
  dFn "_law_q" "_law_q" (topS 44),
  dFn "_law_minus" "_law_minus" (topS 45),
  dFn "_law_less" "_law_less" (topS 46),
  dFn "_law_is_ratio" "_law_is_ratio" (topS 47),
  dFn "_law_are_ratios" "_law_are_ratios" (topS 48),
  dFn "_law_passed" "_law_passed" (topS 49),
  dFn "_law_merged" "_law_merged" (topS 50),
  dFn "_law_numbers" "_law_numbers" (topS 51),
  dFn "_law_block" "_law_block" (topS 52),
  dFn "_law_scale" "_law_scale" (topS 53),
  dFn "_law_buyer" "_law_buyer" (topS 54),
  dFn "_law_list" "_law_list" (topS 55),
  dFn "_law_made" "_law_made" (topS 56),
  dFn "_law_sum" "_law_sum" (topS 57),
  dFn "_law_planes" "_law_planes" (topS 58),
  dFn "_law_bests" "_law_bests" (topS 60),
  dFn "_law_difference" "_law_difference" (topS 61),
  dFn "_law_put_in" "_law_put_in" (topS 65),
  dFn "_law_wider" "_law_wider" (topS 63),
  dFn "_law_corners" "_law_corners" (topS 62),
  dFn "_law_cell_places" "_law_cell_places" (topS 64),
  dFn "_law_more" "_law_more" (topS 66),
  dFn "_law_units" "_law_units" (topS 67),
  dFn "_law_units_told" "_law_units_told" (topS 68),
  dFn "_law_is_less" "_law_is_less" (topS 69),
  dFn "_law_two" "_law_two" (topS 70),
  dFn "_law_fault" "_law_fault" (topS 59),
  dFn "law" "law" (topS 71),
  dMt "Less" "__init__" "__init__" "Less.__init__" (mS 17 0),
  dMt "Bids" "__init__" "__init__" "Bids.__init__" (mS 37 0),
  dMt "Bids" (PySem.dunder "add") "__add__" "Bids.__add__" (mS 37 2),
  dMt "Bids" "__neg__" "__neg__" "Bids.__neg__" (mS 37 3),
  dMt "Unlike" "__init__" "__init__" "Unlike.__init__" (mS 4 0)]
def faL : List He.Fa := [.glo "is_whole", .glo "is_ratio", .glo "divisor", .glo "lowest", .glo "told", .glo "bottom_of", .glo "need_kinds_likeness", .glo "common_divisor", .glo "scale_of", .glo "whole_rows", .glo "price_tuple", .glo "stops_of", .glo "orders_of", .glo "corners_of", .glo "offsets_of", .glo "units_taken", .glo "takes_no_less", .glo "need_kinds_bids", .glo "is_price_row", .glo "is_bid", .glo "plain_rows", .glo "_law_pen", .glo "_law_draw", .glo "_law_pick", .glo "_law_is_whole", .glo "_law_gcd", .glo "_law_q", .glo "_law_minus", .glo "_law_less", .glo "_law_is_ratio", .glo "_law_are_ratios", .glo "_law_passed", .glo "_law_merged", .glo "_law_numbers", .glo "_law_block", .glo "_law_scale", .glo "_law_buyer", .glo "_law_list", .glo "_law_made", .glo "_law_sum", .glo "_law_planes", .glo "_law_bests", .glo "_law_difference", .glo "_law_put_in", .glo "_law_wider", .glo "_law_corners", .glo "_law_cell_places", .glo "_law_more", .glo "_law_units", .glo "_law_units_told", .glo "_law_is_less", .glo "_law_two", .glo "_law_fault", .glo "law", .glo "Less", .glo "Bids", .glo "Unlike", .glo "BidError", .glo "BadRow", .free "abs", .free "isinstance", .free "int", .free "bool", .free "tuple", .free "list", .free "len", .free "range", .free "all", .free "any", .free "zip", .free "max", .free "min", .free "sorted", .free "enumerate", .free "dict", .int "FINE" 8, .int "MOST_KINDS" 3, .cls "Less", .cls "Bids", .noat "Less" "prices", .noat "Less" "kind", .noat "Bids" "kinds", .noat "Bids" "rows", .noat "Unlike" "what", .meth "Bids" (PySem.dunder "add"), .meth "Bids" "__neg__", .mkr "Less", .mkr "Bids", .exm "Unlike" "BadRow" false, .exm "Unlike" "Unlike" true]
/-! facts that the kit's list does not name -/
def oexB (K : PySem.W.Frag) (C : Addr) : Bool := (match K.lookup C with
  | some ⟨.type "type", _, .cls cd, sl⟩ => (match cd.mro, sl.toList with
    | .ref C1 :: bm, [_, _, _, _, some (.builtin n), _] => decide (C1 = C) && (decide (n = "ValueError.__new__") && (!cd.hasDel && (cd.hasDict && PySem.HandSPX.refsVE bm)))
    | _, _ => false)
  | _ => false) && (decide (PySem.W.findIn K (.ref C) "__setattr__" = some (some (.builtin "object.__setattr__"))) && (decide (PySem.W.subIn K (.ref C) (.type "BaseException") = some true) && (decide (PySem.W.typeIn K (.ref C) = some (.type "type")) && PySem.W.keepIn K (.ref C))))
def baseB (K : PySem.W.Frag) (B : Addr) : Bool := PySem.W.readsIn K B (.type "type") && (decide (PySem.W.specialIn K (.ref B) "__getattribute__" = some (some (.builtin "type.__getattribute__"))) && (match PySem.W.findCls K (.ref B) (.type "type") "__init__" with
  | some (.val (.builtin n)) => decide (n = "ValueError.__init__")
  | _ => false))
def instB (K : PySem.W.Frag) (C : Addr) : Bool := decide (PySem.W.findIn K (.ref C) "__class__" = some (some (.builtin "object.__class__"))) && (decide (PySem.W.specialIn K (.builtin "object.__class__") "__get__" = some (some (.builtin "getset_descriptor.__get__"))) && (decide (PySem.W.takesIn K (.builtin "object.__class__") = some true) &&
  (decide (PySem.W.mroIn K C (.type "object") = some true) && (decide (PySem.W.kitOne K (.ref C) (.ref C) = some true) && decide (PySem.W.findIn K (.ref C) "__eq__" = some (some (.builtin "object.__eq__")))))))
def uinB (K : PySem.W.Frag) (C : Addr) : Bool := decide (PySem.W.findIn K (.ref C) "__init__" = some (some (.ref (He.ma K C "__init__")))) && decide (PySem.W.typeIn K (.ref (He.ma K C "__init__")) = some (.type "function"))
def exB (K : PySem.W.Frag) : Bool := oexB K (He.ga K "Unlike") && (baseB K (He.ga K "BidError") && (xfB K (He.ga K "Unlike") && (instB K (He.ga K "Less") && (PySem.W.selfFirst K (He.ga K "Bids") && uinB K (He.ga K "Unlike")))))
/-! ### the Hook: names, classes, the law's table -/
def asL (g : Addr → Option Obj) (n : Nat) : List Addr := He.asD g n ++ [cStatics]
def lawT : List He.Defn := [("law", none)]
structure SaysL (h : Heap) (K : PySem.W.Frag) : Prop where
  d : He.SaysD faL fnL K
  more : exB K = true
  hd : PySem.W.codeHdIn K (He.codeOf K ("law", none)) (He.tabOf K (He.codeOf K ("law", none))) = true
  out : K.lookup (He.tabOf K (He.codeOf K ("law", none))) = none
  empty : h.get? (He.tabOf K (He.codeOf K ("law", none))) = some { cls := .none, data := .fields #[] }
abbrev AlL : Type := He.AlD × Bool
def obsL (n : Nat) (g : Addr → Option Obj) : AlL := (He.obsD faL fnL (He.frT g (asL g n)), exB (He.frT g (asL g n)) && He.tabsB g lawT (He.frT g (asL g n)))
theorem saysL_of {n : Nat} {h : Heap} (e : obsL n h.get? = (He.valD fnL, true)) : SaysL h (He.frT h.get? (asL h.get? n)) := by
  have e1 : He.obsD faL fnL (He.frT h.get? (asL h.get? n)) = He.valD fnL := congrArg (fun z : AlL => z.1) e
  have e2 : (exB (He.frT h.get? (asL h.get? n)) && He.tabsB h.get? lawT (He.frT h.get? (asL h.get? n))) = true := congrArg (fun z : AlL => z.2) e
  obtain ⟨h1, h2⟩ := He.ba e2
  obtain ⟨h3, h4⟩ := He.ba (List.all_eq_true.mp h2 ("law", none) (List.mem_singleton.mpr rfl))
  cases q : h.get? (He.cT (He.frT h.get? (asL h.get? n)) ("law", none)).2 with
  | none =>
    rw [q] at h4
    cases h4
  | some o =>
    rw [q] at h4
    exact ⟨e1, h1, h3, He.frT_none q h4, by rw [← He.emptyTab_eq h4]; exact q⟩
def hkL (n : Nat) : PySem.W.Hook where
  α := AlL
  obs := fun s => obsL n s.heap.get?
  val := fun _ => (He.valD fnL, true)
  says := fun _ h => ∃ K : PySem.W.Frag, K.In h ∧ SaysL h K
  of := fun _ _ e => ⟨_, He.frT_in, saysL_of e⟩
  keeps := fun _ _ _ ⟨K, hK, c⟩ k => ⟨K, PySem.W.Frag.In.keeps hK k, ⟨c.d, c.more, c.hd, c.out, k _ _ c.empty⟩⟩
abbrev rowLaw : PySem.W.OpenRow := PySem.W.OpenLaw.row PySem.Challenge.rw_allbids_k52_whole_units_never_less
abbrev hkF : PySem.W.Hook := hkL 5
def obF (s : PySem.W.SharedT) : AlL := obsL 5 (HandSHeadRun.getT s)
theorem obF_eq (s : PySem.W.SharedT) : obF s = hkF.obs s.abs := by
  have e : HandSHeadRun.getT s = s.abs.heap.get? := funext (HandSHeadRun.getT_eq s)
  show obsL 5 (HandSHeadRun.getT s) = obsL 5 s.abs.heap.get?
  rw [e]
def names_0 : List PySem.Str := ["BidError", "BadNumber", "BadRow", "Unlike", "TooMany", "TooLarge", "NoBuyer", "is_whole"]
def names_1 : List PySem.Str := ["is_ratio", "divisor", "lowest", "told", "bottom_of", "FINE", "Less", "need_kinds"]
def names_2 : List PySem.Str := ["need_kinds_likeness", "common_divisor", "scale_of", "whole_rows", "price_tuple", "stops_of", "orders_of", "corners_of"]
def names_3 : List PySem.Str := ["offsets_of", "units_taken", "takes_no_less", "MOST_KINDS", "need_kinds_bids", "is_price_row", "is_bid", "plain_rows"]
def names_4 : List PySem.Str := ["Bids"]
def names_5 : List PySem.Str := ["_law_pen", "_law_draw", "_law_pick", "_law_is_whole", "_law_gcd", "_law_q", "_law_minus", "_law_less"]
def names_6 : List PySem.Str := ["_law_is_ratio", "_law_are_ratios", "_law_passed", "_law_merged", "_law_numbers", "_law_block", "_law_scale", "_law_buyer"]
def names_7 : List PySem.Str := ["_law_list", "_law_made", "_law_sum", "_law_planes", "_law_fault", "_law_bests", "_law_difference", "_law_corners"]
def names_8 : List PySem.Str := ["_law_wider", "_law_cell_places", "_law_put_in", "_law_more", "_law_units", "_law_units_told", "_law_is_less", "_law_two"]
def namesL : List PySem.Str := names_0 ++ names_1 ++ names_2 ++ names_3 ++ names_4 ++ names_5 ++ names_6 ++ names_7 ++ names_8
theorem runL (w : World) : HandSHeadRun.RunEq rowLaw (PySem.W.view rowLaw.prog [71]) hkF obF 4000 namesL w := by
  intro os
  kernel_rfl
open PySem.W PySem.Calls in
theorem head_rest (hc : WalkO (view rowLaw.prog [71]) namesL (XL (view rowLaw.prog [71]) []) hkF.says (OpenLaw.row PySem.Challenge.rw_allbids_k52_whole_units_never_less).toRowW (HandSHeadRun.topDef rowLaw.prog 71) [] (fun f vs => PySem.call f vs)) : PySem.Challenge.rw_allbids_k52_whole_units_never_less.Holds := by
  w_on; o_law
  refine HandSHeadRun.head_any (r := OpenLaw.row PySem.Challenge.rw_allbids_k52_whole_units_never_less) (q := view (OpenLaw.row PySem.Challenge.rw_allbids_k52_whole_units_never_less).prog [71]) (H := hkF) (ob := obF) (M := 4000) (loose := namesL)
    (d := HandSHeadRun.topDef (OpenLaw.row PySem.Challenge.rw_allbids_k52_whole_units_never_less).prog 71) (kwd := []) obF_eq
    (by kernel_rfl) (fun s => by kernel_rfl) runL (by kernel_rfl) (by kernel_rfl) (by kernel_rfl) (by rfl) (by first | assumption | decide +kernel) (by decide +kernel) ⟨rfl, rfl, rfl, rfl, rfl, by decide +kernel⟩ ?hw hc
  case hw => w_witness2
theorem law_name : (HandSHeadRun.topDef rowLaw.prog 71).name = ("law" : PySem.Str) := by kernel_rfl
theorem law_dflt : (HandSHeadRun.topDef rowLaw.prog 71).params.defaults = [] := by kernel_rfl
end AB
set_option maxHeartbeats 4000000
/-! The data layer: values as data D, owned mutable objects, an immutable part I of the abstract heap. -/
namespace AB
open PySem PySem.Spec PyProof.Rows L2

inductive D where
  | non | bl (b : Bool) | int (i : Int) | str (x : Str)
  | tup (ds : List D) | lst (ds : List D)
  | dK (ks : List Key) (ds : List D)
  | ins (C : Addr) (fs : List Str) (ds : List D)
  | raw (v : V)
  | ext (φ : Hp → V → Prop)

/-- heap inclusion -/
def Ex (H H' : Hp) : Prop := ∀ a o, H a = some o → H' a = some o
theorem Ex.refl (H : Hp) : Ex H H := fun _ _ h => h
theorem Ex.trans {H H1 H2 : Hp} (a : Ex H H1) (b : Ex H1 H2) : Ex H H2 := fun x o h => b x o (a x o h)
theorem Ex.new {H : Hp} {p : Addr} {o : HO} (h : H p = none) : Ex H (upd H p o) := fun a u e => by
  rw [upd_ne (ne_of_none e h)]; exact e
theorem Ex.mut {I H : Hp} {p : Addr} {o : HO} (e : Ex I H) (h : I p = none) : Ex I (upd H p o) := fun a u ha => by
  rw [upd_ne (ne_of_none ha h)]; exact e a u ha
theorem Ex.both {I H : Hp} {p : Addr} {o : HO} (e : Ex I H) : Ex (upd I p o) (upd H p o) := fun a u ha => by
  by_cases h : a = p
  · subst h; rw [upd_same] at ha ⊢; exact ha
  · rw [upd_ne h] at ha ⊢; exact e a u ha
theorem Ex.free {I H : Hp} (e : Ex I H) {p : Addr} (h : H p = none) : I p = none := by
  cases q : I p with
  | none => rfl
  | some o => rw [e p o q] at h; cases h

mutual
def Den (H : Hp) : D → V → Prop
  | .non, v => v = .non
  | .bl b, v => v = .bl b
  | .int i, v => v = .int i
  | .str x, v => v = .str x
  | .tup ds, v => ∃ a xs, v = .ref a ∧ H a = some (.tup xs) ∧ DenL H ds xs
  | .lst ds, v => ∃ a xs, v = .ref a ∧ H a = some (.lst xs) ∧ DenL H ds xs
  | .dK ks ds, v => ∃ a xs, v = .ref a ∧ H a = some (.dK (ks.zip xs)) ∧ ks.length = xs.length ∧ DenL H ds xs
  | .ins C fs ds, v => ∃ a dx xs, v = .ref a ∧ H a = some (.ins C dx (fs.zip xs)) ∧ fs.length = xs.length ∧ DenL H ds xs
  | .raw w, v => v = w
  | .ext φ, v => ∃ J, Ex J H ∧ φ J v
def DenL (H : Hp) : List D → List V → Prop
  | [], xs => xs = []
  | d :: ds, xs => ∃ y ys, xs = y :: ys ∧ Den H d y ∧ DenL H ds ys
end
mutual
theorem Den.mono {H H' : Hp} (e : Ex H H') : ∀ (d : D) {v : V}, Den H d v → Den H' d v
  | .non, _, h => h
  | .bl _, _, h => h
  | .int _, _, h => h
  | .str _, _, h => h
  | .tup ds, _, ⟨a, xs, r, q, l⟩ => ⟨a, xs, r, e a _ q, DenL.mono e ds l⟩
  | .lst ds, _, ⟨a, xs, r, q, l⟩ => ⟨a, xs, r, e a _ q, DenL.mono e ds l⟩
  | .dK ks ds, _, ⟨a, xs, r, q, n, l⟩ => ⟨a, xs, r, e a _ q, n, DenL.mono e ds l⟩
  | .ins C fs ds, _, ⟨a, dx, xs, r, q, n, l⟩ => ⟨a, dx, xs, r, e a _ q, n, DenL.mono e ds l⟩
  | .raw _, _, h => h
  | .ext _, _, ⟨J, a, b⟩ => ⟨J, a.trans e, b⟩
theorem DenL.mono {H H' : Hp} (e : Ex H H') : ∀ (ds : List D) {xs : List V}, DenL H ds xs → DenL H' ds xs
  | [], _, h => h
  | d :: ds, _, ⟨y, ys, r, q, l⟩ => ⟨y, ys, r, Den.mono e d q, DenL.mono e ds l⟩
end
theorem DenL.length {H : Hp} : ∀ {ds : List D} {xs : List V}, DenL H ds xs → ds.length = xs.length
  | [], _, h => by rw [show _ = [] from h]; rfl
  | d :: ds, _, ⟨y, ys, r, _, l⟩ => by rw [r, List.length_cons, List.length_cons, DenL.length l]
theorem DenL.get {H : Hp} : ∀ {ds : List D} {xs : List V} {i : Nat} {d : D}, DenL H ds xs → ds[i]? = some d → ∃ v, xs[i]? = some v ∧ Den H d v
  | [], _, _, _, _, e => by simp at e
  | d :: ds, _, 0, _, ⟨y, ys, r, q, l⟩, e => by
    simp at e; subst e; exact ⟨y, by rw [r]; rfl, q⟩
  | d :: ds, _, i + 1, _, ⟨y, ys, r, q, l⟩, e => by
    obtain ⟨v, h1, h2⟩ := DenL.get (i := i) l (by simpa using e)
    exact ⟨v, by rw [r]; simpa using h1, h2⟩
theorem DenL.append {H : Hp} : ∀ {ds es : List D} {xs ys : List V}, DenL H ds xs → DenL H es ys → DenL H (ds ++ es) (xs ++ ys)
  | [], _, _, _, h, h' => by rw [show _ = [] from h]; exact h'
  | d :: ds, _, _, _, ⟨y, ys, r, q, l⟩, h' => ⟨y, _, by rw [r]; rfl, q, DenL.append l h'⟩
theorem DenL.set {H : Hp} {d : D} {v : V} (h : Den H d v) : ∀ {ds : List D} {xs : List V} (i : Nat), DenL H ds xs → DenL H (ds.set i d) (xs.set i v)
  | [], _, _, l => by rw [show _ = [] from l]; exact rfl
  | _ :: ds, _, 0, ⟨y, ys, r, q, l⟩ => ⟨v, ys, by rw [r]; rfl, h, l⟩
  | _ :: ds, _, i + 1, ⟨y, ys, r, q, l⟩ => ⟨y, ys.set i v, by rw [r]; rfl, q, DenL.set h i l⟩
theorem DenL.snoc {H : Hp} {ds : List D} {xs : List V} {d : D} {v : V} (l : DenL H ds xs) (h : Den H d v) : DenL H (ds ++ [d]) (xs ++ [v]) := l.append ⟨v, [], rfl, h, rfl⟩
theorem DenL.cons {H : Hp} {ds : List D} {xs : List V} {d : D} {v : V} (h : Den H d v) (l : DenL H ds xs) : DenL H (d :: ds) (v :: xs) := ⟨v, xs, rfl, h, l⟩
theorem DenL.nil {H : Hp} : DenL H [] [] := rfl
theorem DenL.take {H : Hp} : ∀ (n : Nat) {ds : List D} {xs : List V}, DenL H ds xs → DenL H (ds.take n) (xs.take n)
  | 0, _, _, _ => rfl
  | n + 1, [], _, l => by rw [show _ = [] from l]; exact rfl
  | n + 1, _ :: ds, _, ⟨y, ys, r, q, l⟩ => ⟨y, ys.take n, by rw [r]; rfl, q, DenL.take n l⟩
theorem DenL.drop {H : Hp} : ∀ (n : Nat) {ds : List D} {xs : List V}, DenL H ds xs → DenL H (ds.drop n) (xs.drop n)
  | 0, _, _, l => l
  | n + 1, [], _, l => by rw [show _ = [] from l]; exact rfl
  | n + 1, _ :: ds, _, ⟨y, ys, r, q, l⟩ => by rw [r]; exact DenL.drop n l
theorem DenL.ints {H : Hp} : ∀ {ns : List Int} {xs : List V}, DenL H (ns.map D.int) xs → xs = ns.map V.int
  | [], _, h => h
  | n :: ns, _, ⟨y, ys, r, q, l⟩ => by rw [r, show y = _ from q, DenL.ints l]; rfl
theorem DenL.of_ints {H : Hp} : ∀ (ns : List Int), DenL H (ns.map D.int) (ns.map V.int)
  | [] => rfl
  | n :: ns => ⟨_, _, rfl, rfl, DenL.of_ints ns⟩
theorem DenL.raws {H : Hp} : ∀ {vs xs : List V}, DenL H (vs.map D.raw) xs → xs = vs
  | [], _, h => h
  | n :: ns, _, ⟨y, ys, r, q, l⟩ => by rw [r, show y = _ from q, DenL.raws l]
theorem DenL.of_raws {H : Hp} : ∀ (vs : List V), DenL H (vs.map D.raw) vs
  | [] => rfl
  | n :: ns => ⟨_, _, rfl, rfl, DenL.of_raws ns⟩

/-! ### keys -/
mutual
def kD : NestedKey → D
  | .none => .non
  | .num i => .int i
  | .text x => .str x
  | .tup ks => .tup (kDs ks)
def kDs : List NestedKey → List D
  | [] => []
  | k :: ks => kD k :: kDs ks
end

/-! ### owned objects -/
inductive MO where
  | lst (ds : List D)
  | dK (ks : List Key) (ds : List D)
  | dN (ks : List NestedKey) (ds : List D)
  | dNz (od : Obj) (u : HO) (ks : List NestedKey) (ds : List D)
  | ins (C : Addr) (fs : List Str) (ds : List D)
  | any (o : HO)

/-- a dict's raw entries -/
def rawD (P : Program) (w : World) (p : Addr) (xs : List (NestedKey × Addr × Value)) : Heap → Prop := fun h =>
  ∃ o es ep, h.get? p = some o ∧ o.ExactDict ∧ o.data = .dict es ep ∧ es.toList = xs.map (entryOfKey (nestedKind P w)) ∧ (p == sysModules) = false
structure DNok (P : Program) (w : World) (I H : Hp) (p : Addr) (f : HO → HO) (ks : List NestedKey) (ds : List D) : Prop where
  ex : ∃ (xs : List (NestedKey × Addr × Value)) (vs : List V), H p = some (f (.ext (rawD P w p xs))) ∧ xs.map (·.1) = ks ∧ Vals vs (xs.map (·.2.2)) ∧ DenL I ds vs ∧ ∀ x ∈ xs, Den I (kD x.1) (.ref x.2.1)
  nd : ks.Nodup
  dp : ∀ k ∈ ks, k.depth ≤ 8
  tp : ∀ k ∈ ks, ∃ l, k = .tup l
  sz : ks.length ≤ sizeLine

section
variable (P : Program) (w : World)
def OwnOk (I H : Hp) (p : Addr) : MO → Prop
  | .lst ds => ∃ xs, H p = some (.lst xs) ∧ DenL I ds xs
  | .dK ks ds => ∃ xs, H p = some (.dK (ks.zip xs)) ∧ ks.length = xs.length ∧ DenL I ds xs
  | .dN ks ds => DNok P w I H p id ks ds
  | .dNz od u ks ds => H p = some (.frz od u) ∧ DNok P w I (fun _ => some u) p id ks ds
  | .ins C fs ds => ∃ dx xs, H p = some (.ins C dx (fs.zip xs)) ∧ fs.length = xs.length ∧ DenL I ds xs
  | .any o => H p = some o
abbrev Own := List (Addr × MO)
abbrev adr (O : Own) : List Addr := O.map (·.1)
structure Owns (I H : Hp) (O : Own) : Prop where
  own : ∀ q ∈ O, I q.1 = none ∧ OwnOk P w I H q.1 q.2
  nd : (adr O).Nodup
abbrev Env' := List (Option D)
structure Stt (I H : Hp) (ρ : Env') (σ : L2.St) (O : Own) : Prop where
  sub : Ex I H
  len : ρ.length = σ.length
  env : ∀ (i : Nat) (d : D), ρ[i]? = some (some d) → ∃ v : V, σ[i]? = some (some v) ∧ Den I d v
  own : Owns P w I H O
end
/-- from (I, H) with owned S to (J, H') with owned S' -/
structure Grow (S S' : List Addr) (I H J H' : Hp) : Prop where
  up : Ex I J
  sub : Ex J H'
  kp : ∀ a o, a ∉ S → H a = some o → H' a = some o
  nw : ∀ a o, a ∉ S → H a = some o → I a = none → J a = none
  fr : ∀ a ∈ S', a ∈ S ∨ H a = none
theorem Grow.refl {S : List Addr} {I H : Hp} (e : Ex I H) : Grow S S I H I H := ⟨Ex.refl I, e, fun _ _ _ h => h, fun _ _ _ _ h => h, fun _ h => .inl h⟩
theorem Grow.trans {S S1 S2 : List Addr} {I H J1 H1 J2 H2 : Hp} (a : Grow S S1 I H J1 H1) (b : Grow S1 S2 J1 H1 J2 H2) : Grow S S2 I H J2 H2 := by
  have out : ∀ x o, x ∉ S → H x = some o → x ∉ S1 := fun x o n h m => by
    rcases a.fr x m with z | z
    · exact n z
    · rw [h] at z; cases z
  refine ⟨a.up.trans b.up, b.sub, fun x o n h => b.kp x o (out x o n h) (a.kp x o n h), fun x o n h hi => b.nw x o (out x o n h) (a.kp x o n h) (a.nw x o n h hi), fun x m => ?_⟩
  rcases b.fr x m with z | z
  · exact a.fr x z
  · by_cases hs : x ∈ S
    · exact .inl hs
    · cases q : H x with
      | none => exact .inr rfl
      | some o => rw [a.kp x o hs q] at z; cases z
section
variable {P : Program} {w : World} {I H J H' : Hp} {p : Addr}
theorem DNok.mono {J : Hp} (e : Ex I J) (he : ∀ o, H p = some o → H' p = some o) {f : HO → HO} {ks : List NestedKey} {ds : List D} (h : DNok P w I H p f ks ds) : DNok P w J H' p f ks ds := by
  obtain ⟨⟨xs, vs, h1, h2, h3, h4, h5⟩, nd, dp, tp, sz⟩ := h
  exact ⟨⟨xs, vs, he _ h1, h2, h3, DenL.mono e _ h4, fun x hx => Den.mono e _ (h5 x hx)⟩, nd, dp, tp, sz⟩
theorem OwnOk.mono {J : Hp} (e : Ex I J) (he : ∀ o, H p = some o → H' p = some o) : ∀ {m : MO}, OwnOk P w I H p m → OwnOk P w J H' p m
  | .lst _, ⟨xs, a, b⟩ => ⟨xs, he _ a, DenL.mono e _ b⟩
  | .dK _ _, ⟨xs, a, n, b⟩ => ⟨xs, he _ a, n, DenL.mono e _ b⟩
  | .dN _ _, h => DNok.mono e he h
  | .dNz _ _ _ _, h => ⟨he _ h.1, DNok.mono e (fun _ x => x) h.2⟩
  | .ins _ _ _, ⟨dx, xs, a, n, b⟩ => ⟨dx, xs, he _ a, n, DenL.mono e _ b⟩
  | .any _, h => he _ h
theorem OwnOk.there : ∀ {m : MO}, OwnOk P w I H p m → ∃ o, H p = some o
  | .lst _, ⟨xs, a, b⟩ => ⟨_, a⟩
  | .dK _ _, ⟨xs, a, n, b⟩ => ⟨_, a⟩
  | .dN _ _, h => let ⟨_, _, h1, _⟩ := h.ex; ⟨_, h1⟩
  | .dNz _ _ _ _, h => ⟨_, h.1⟩
  | .ins _ _ _, ⟨dx, xs, a, n, b⟩ => ⟨_, a⟩
  | .any _, h => ⟨_, h⟩
theorem Owns.nil : Owns P w I H [] := ⟨fun _ h => (nomatch h), List.nodup_nil⟩
theorem Owns.there {O : Own} (h : Owns P w I H O) {a : Addr} (m : a ∈ adr O) : (∃ o, H a = some o) ∧ I a = none := by
  obtain ⟨q, hq, e⟩ := List.mem_map.mp m
  obtain ⟨h1, h2⟩ := h.own q hq
  subst e
  exact ⟨h2.there, h1⟩
/-- owned objects that a step leaves alone -/
theorem Owns.frame {S S' : List Addr} {O : Own} (h : Owns P w I H O) (g : Grow S S' I H J H') (out : ∀ a ∈ adr O, a ∉ S) : Owns P w J H' O := by
  refine ⟨fun q hq => ?_, h.nd⟩
  have hm : q.1 ∈ adr O := List.mem_map.mpr ⟨q, hq, rfl⟩
  obtain ⟨h1, h2⟩ := h.own q hq
  obtain ⟨o, ho⟩ := h2.there
  exact ⟨g.nw _ _ (out _ hm) ho h1, h2.mono g.up fun u hu => g.kp _ _ (out _ hm) hu⟩
theorem Owns.sub {O O' : Own} (h : Owns P w I H O) (hs : ∀ q ∈ O', q ∈ O) (nd : (adr O').Nodup) : Owns P w I H O' := ⟨fun q hq => h.own q (hs q hq), nd⟩
theorem Owns.append {O O' : Own} (h : Owns P w I H O) (h' : Owns P w I H O') (dj : ∀ a ∈ adr O, a ∉ adr O') : Owns P w I H (O ++ O') :=
  ⟨fun q hq => (List.mem_append.mp hq).elim (h.own q) (h'.own q), by
    show ((O ++ O').map (·.1)).Nodup
    rw [List.map_append]
    exact List.nodup_append.mpr ⟨h.nd, h'.nd, fun a ha b hb e => dj a ha (e ▸ hb)⟩⟩
theorem Owns.left {O O' : Own} (h : Owns P w I H (O ++ O')) : Owns P w I H O := h.sub (fun q hq => List.mem_append_left _ hq) (by
  have n := h.nd
  show (O.map (·.1)).Nodup
  unfold adr at n
  rw [List.map_append] at n
  exact (List.nodup_append.mp n).1)
theorem Owns.right {O O' : Own} (h : Owns P w I H (O ++ O')) : Owns P w I H O' := h.sub (fun q hq => List.mem_append_right _ hq) (by
  have n := h.nd
  show (O'.map (·.1)).Nodup
  unfold adr at n
  rw [List.map_append] at n
  exact (List.nodup_append.mp n).2.1)
theorem Owns.disj {O O' : Own} (h : Owns P w I H (O ++ O')) : ∀ a ∈ adr O, a ∉ adr O' := fun a ha hb => by
  have n := h.nd
  unfold adr at n
  rw [List.map_append] at n
  exact (List.nodup_append.mp n).2.2 a ha a hb rfl
theorem Owns.perm {O O' : Own} (h : Owns P w I H O) (hp : O.Perm O') : Owns P w I H O' := ⟨fun q hq => h.own q (hp.mem_iff.mpr hq), (hp.map _).nodup_iff.mp h.nd⟩
end
section
variable {P : Program} {w : World} {I H J H' : Hp} {ρ : Env'} {σ : L2.St} {O O' : Own}
theorem Stt.step {S S' : List Addr} (h : Stt P w I H ρ σ O) (g : Grow S S' I H J H') (o : Owns P w J H' O') : Stt P w J H' ρ σ O' :=
  ⟨g.sub, h.len, fun i d e => let ⟨v, h1, h2⟩ := h.env i d e; ⟨v, h1, Den.mono g.up _ h2⟩, o⟩
theorem Stt.set (h : Stt P w I H ρ σ O) {d : D} {v : V} (i : Nat) (hd : Den I d v) : Stt P w I H (ρ.set i (some d)) (σ.set i (some v)) O := by
  refine ⟨h.sub, by rw [List.length_set, List.length_set]; exact h.len, fun j e q => ?_, h.own⟩
  by_cases hj : i = j
  · subst hj
    have hl : i < ρ.length := by
      have z := (List.getElem?_eq_some_iff.mp q).1
      simpa using z
    rw [List.getElem?_set_self hl] at q
    cases q
    exact ⟨v, List.getElem?_set_self (by rw [← h.len]; exact hl), hd⟩
  · rw [List.getElem?_set_ne hj] at q
    obtain ⟨u, h1, h2⟩ := h.env j e q
    exact ⟨u, by rw [List.getElem?_set_ne hj]; exact h1, h2⟩
/-- slots forgotten -/
def wipeR (ρ : Env') : List Nat → Env'
  | [] => ρ
  | v :: vs => (wipeR ρ vs).set v none
theorem wipeR_length (ρ : Env') : ∀ vs : List Nat, (wipeR ρ vs).length = ρ.length
  | [] => rfl
  | v :: vs => by unfold wipeR; rw [List.length_set, wipeR_length ρ vs]
theorem wipe_at (σ : L2.St) : ∀ (vs : List Nat) (j : Nat), (wipe σ vs)[j]? = if j ∈ vs ∧ j < σ.length then some none else σ[j]?
  | [], j => by simp [wipe]
  | v :: vs, j => by
    have ih := wipe_at σ vs j
    have hl := wipe_length σ vs
    unfold wipe
    by_cases e : v = j
    · subst e
      by_cases hj : v < σ.length
      · rw [List.getElem?_set_self (by rw [hl]; exact hj), if_pos ⟨List.mem_cons_self, hj⟩]
      · rw [if_neg (fun z => hj z.2), List.getElem?_eq_none (by rw [List.length_set, hl]; omega), List.getElem?_eq_none (by omega)]
    · rw [List.getElem?_set_ne e, ih]
      by_cases hj : j ∈ vs ∧ j < σ.length
      · rw [if_pos hj, if_pos ⟨List.mem_cons_of_mem _ hj.1, hj.2⟩]
      · rw [if_neg hj, if_neg fun z => hj ⟨(List.mem_cons.mp z.1).resolve_left (Ne.symm e), z.2⟩]
theorem wipeR_some : ∀ {vs : List Nat} {i : Nat} {x : D}, (wipeR ρ vs)[i]? = some (some x) → ρ[i]? = some (some x) ∧ i ∉ vs
  | [], i, x, h => ⟨h, by simp⟩
  | v :: vs, i, x, h => by
    unfold wipeR at h
    by_cases hi : v = i
    · subst hi
      by_cases hv : v < (wipeR ρ vs).length
      · rw [List.getElem?_set_self hv] at h; cases h
      · rw [List.getElem?_eq_none (by simpa using hv)] at h; cases h
    · rw [List.getElem?_set_ne hi] at h
      obtain ⟨h1, h2⟩ := wipeR_some h
      exact ⟨h1, by simp only [List.mem_cons, not_or]; exact ⟨fun e => hi e.symm, h2⟩⟩
theorem Stt.wipe (h : Stt P w I H ρ σ O) (vs : List Nat) : Stt P w I H (wipeR ρ vs) (L2.wipe σ vs) O := by
  refine ⟨h.sub, by rw [wipeR_length, wipe_length]; exact h.len, fun j e q => ?_, h.own⟩
  obtain ⟨h1, h2⟩ := wipeR_some q
  obtain ⟨u, h3, h4⟩ := h.env j e h1
  exact ⟨u, by rw [wipe_at, if_neg fun z => h2 z.1]; exact h3, h4⟩
theorem wipe_ext {σ σ' : L2.St} {vs : List Nat} (hl : σ'.length = σ.length) (h : ∀ j, j ∉ vs → σ'[j]? = σ[j]?) : wipe σ' vs = wipe σ vs := by
  apply List.ext_getElem?
  intro j
  rw [wipe_at, wipe_at, hl]
  by_cases hj : j ∈ vs
  · by_cases hl2 : j < σ.length
    · rw [if_pos ⟨hj, hl2⟩, if_pos ⟨hj, hl2⟩]
    · rw [if_neg (fun z => hl2 z.2), if_neg (fun z => hl2 z.2), List.getElem?_eq_none (by omega), List.getElem?_eq_none (by omega)]
  · rw [if_neg (fun z => hj z.1), if_neg (fun z => hj z.1)]
    exact h j hj
theorem wipe_idem (σ : L2.St) (vs : List Nat) : wipe (wipe σ vs) vs = wipe σ vs := wipe_ext (wipe_length σ vs) fun j hj => by rw [wipe_at, if_neg fun z => hj z.1]
end
end AB
namespace AB
open PySem PySem.Spec PyProof.Rows L2

structure Post where
  nx : Env' → Own → Prop
  rt : D → Own → Prop
  bk : Env' → Own → Prop := fun _ _ => False
  ct : Env' → Own → Prop := fun _ _ => False

section
variable (P : Program) (w : World)
def rdE (ρ : Env') (O : Own) (post : D → Own → Prop) : TE := fun σ H Q =>
  ∃ I, Stt P w I H ρ σ O ∧ ∀ v J H' d O', Grow (adr O) (adr O') I H J H' → Stt P w J H' ρ σ O' → Den J d v → post d O' → Q v H'
def rdT (ρ : Env') (O : Own) (post : Bool → Own → Prop) : TT := fun σ H Q =>
  ∃ I, Stt P w I H ρ σ O ∧ ∀ b J H' O', Grow (adr O) (adr O') I H J H' → Stt P w J H' ρ σ O' → post b O' → Q b H'
def rdA (ρ : Env') (O : Own) (post : List D → Own → Prop) : TA := fun σ H Q =>
  ∃ I, Stt P w I H ρ σ O ∧ ∀ vs J H' ds O', Grow (adr O) (adr O') I H J H' → Stt P w J H' ρ σ O' → DenL J ds vs → post ds O' → Q vs H'
def rdG (ts : List Nat) (ρ : Env') (d : D) (O : Own) (post : Env' → Own → Prop) : TG := fun v σ H Q =>
  ∃ I, Stt P w I H ρ σ O ∧ Den I d v ∧ ∀ σ' J H' ρ' O', Grow (adr O) (adr O') I H J H' → Stt P w J H' ρ' σ' O' →
    (σ'.length = σ.length ∧ ∀ j, j ∉ ts → σ'[j]? = σ[j]?) → post ρ' O' → Q σ' H'
def rdGs (ts : List Nat) (ρ : Env') (ds : List D) (O : Own) (post : Env' → Own → Prop) : TGs := fun vs σ H Q =>
  ∃ I, Stt P w I H ρ σ O ∧ DenL I ds vs ∧ ∀ σ' J H' ρ' O', Grow (adr O) (adr O') I H J H' → Stt P w J H' ρ' σ' O' →
    (σ'.length = σ.length ∧ ∀ j, j ∉ ts → σ'[j]? = σ[j]?) → post ρ' O' → Q σ' H'
def EndN (O : Own) (I H : Hp) (nx : Env' → Own → Prop) (q : L2.St → Hp → Prop) : Prop :=
  ∀ σ' J H' ρ' O', Grow (adr O) (adr O') I H J H' → Stt P w J H' ρ' σ' O' → nx ρ' O' → q σ' H'
def EndR (O : Own) (I H : Hp) (rt : D → Own → Prop) (q : VK) : Prop :=
  ∀ v J H' d O', Grow (adr O) (adr O') I H J H' → Owns P w J H' O' → Den J d v → rt d O' → q v H'
def rdS (ρ : Env') (O : Own) (p : Post) : TS := fun Dn σ H =>
  ∃ I, Stt P w I H ρ σ O ∧ EndN P w O I H p.nx Dn.nx ∧ EndR P w O I H p.rt Dn.rt ∧ EndN P w O I H p.bk Dn.bk ∧ EndN P w O I H p.ct Dn.ct
end

abbrev Lk (P : Program) (w : World) (J : It) (I : Hp) (Oz : Own) (ds : List D) : Prop :=
  ∀ I1 H O1, Ex I I1 → Ex I1 H → Owns P w I1 H O1 → (∀ q ∈ Oz, q ∈ O1) → (∀ i, i < ds.length → J.go i H) ∧ J.stop ds.length H ∧
    ∀ i x H' d, ds[i]? = some d → J.yld i H x H' → ∃ I2, Grow [] [] I1 H I2 H' ∧ Den I2 d x
def rdI (P : Program) (w : World) (Oz : Own) (ρ : Env') (O : Own) (k : List D → Own → Prop) : TI := fun σ H R =>
  ∃ I, Stt P w I H ρ σ O ∧ ∀ Jt J H' ds O', Grow (adr O) (adr O') I H J H' → Stt P w J H' ρ σ O' → Lk P w Jt J Oz ds → k ds O' → R Jt H'

section
variable (X : Cx)
def DE (e : Expr) (ρ : Env') (O : Own) (post : D → Own → Prop) : Prop := PE X e (rdE X.prog X.w ρ O post)
def DT (e : Expr) (ρ : Env') (O : Own) (post : Bool → Own → Prop) : Prop := PT X e (rdT X.prog X.w ρ O post)
def DA (es : List Expr) (ρ : Env') (O : Own) (post : List D → Own → Prop) : Prop := PA X es (rdA X.prog X.w ρ O post)
def DG (ts : List Nat) (e : Expr) (d : D) (ρ : Env') (O : Own) (post : Env' → Own → Prop) : Prop := PG X e (rdG X.prog X.w ts ρ d O post)
def DGs (ts : List Nat) (es : List Expr) (ds : List D) (ρ : Env') (O : Own) (post : Env' → Own → Prop) : Prop := PGs X es (rdGs X.prog X.w ts ρ ds O post)
def DS (st : Stmt) (ρ : Env') (O : Own) (p : Post) : Prop := PS X st (rdS X.prog X.w ρ O p)
def DSs (st : List Stmt) (ρ : Env') (O : Own) (p : Post) : Prop := PSs X st (rdS X.prog X.w ρ O p)
def DI (tg e : Expr) (Oz : Own) (ρ : Env') (O : Own) (k : List D → Own → Prop) : Prop := PI X tg e (rdI X.prog X.w Oz ρ O k)
def aI (tg e : Expr) : TI := fun σ H R => ∃ Oz ρ O k, DI X tg e Oz ρ O k ∧ rdI X.prog X.w Oz ρ O k σ H R
/-- the reading that says all -/
def aE (e : Expr) : TE := fun σ H Q => ∃ ρ O post, DE X e ρ O post ∧ rdE X.prog X.w ρ O post σ H Q
def aT (e : Expr) : TT := fun σ H Q => ∃ ρ O post, DT X e ρ O post ∧ rdT X.prog X.w ρ O post σ H Q
def aA (e : List Expr) : TA := fun σ H Q => ∃ ρ O post, DA X e ρ O post ∧ rdA X.prog X.w ρ O post σ H Q
def aG (ts : List Nat) (e : Expr) : TG := fun v σ H Q => ∃ ρ d O post, DG X ts e d ρ O post ∧ rdG X.prog X.w ts ρ d O post v σ H Q
def aGs (ts : List Nat) (e : List Expr) : TGs := fun v σ H Q => ∃ ρ d O post, DGs X ts e d ρ O post ∧ rdGs X.prog X.w ts ρ d O post v σ H Q
def aS (st : Stmt) : TS := fun Dn σ H => ∃ ρ O p, DS X st ρ O p ∧ rdS X.prog X.w ρ O p Dn σ H
def aSs (st : List Stmt) : TS := fun Dn σ H => ∃ ρ O p, DSs X st ρ O p ∧ rdS X.prog X.w ρ O p Dn σ H
end

section
variable {X : Cx} {e a b : Expr} {es : List Expr} {st : Stmt} {sts : List Stmt} {ρ : Env'} {O : Own}
theorem any_e : PE X e (aE X e) := ⟨fun pins s σ H Q I ⟨_, _, _, h, q⟩ => h.run pins s σ H Q I q⟩
theorem any_t : PT X e (aT X e) := ⟨fun pins s σ H Q I ⟨_, _, _, h, q⟩ => h.run pins s σ H Q I q⟩
theorem any_a : PA X es (aA X es) := ⟨fun pos pins s σ H Q I ⟨_, _, _, h, q⟩ => h.run pos pins s σ H Q I q⟩
theorem any_g {ts : List Nat} : PG X e (aG X ts e) := ⟨fun pins s σ H v u Q I r ⟨_, _, _, _, h, q⟩ => h.run pins s σ H v u Q I r q⟩
theorem any_gs {ts : List Nat} : PGs X es (aGs X ts es) := ⟨fun pins s σ H v u Q I r ⟨_, _, _, _, h, q⟩ => h.run pins s σ H v u Q I r q⟩
theorem any_i {tg : Expr} : PI X tg e (aI X tg e) := ⟨fun pins s σ H R I ⟨_, _, _, _, h, q⟩ => h.run pins s σ H R I q⟩
theorem any_s : PS X st (aS X st) := ⟨fun pins s σ H Dn I ⟨_, _, _, h, q⟩ => h.run pins s σ H Dn I q⟩
theorem any_ss : PSs X sts (aSs X sts) := ⟨fun pins s σ H Dn I ⟨_, _, _, h, q⟩ => h.run pins s σ H Dn I q⟩
theorem de_of {t : TE} {post : D → Own → Prop} (h : PE X e t) (hw : ∀ σ H Q, rdE X.prog X.w ρ O post σ H Q → t σ H Q) : DE X e ρ O post := ⟨fun pins s σ H Q I q => h.run pins s σ H Q I (hw σ H Q q)⟩
theorem dt_of {t : TT} {post : Bool → Own → Prop} (h : PT X e t) (hw : ∀ σ H Q, rdT X.prog X.w ρ O post σ H Q → t σ H Q) : DT X e ρ O post := ⟨fun pins s σ H Q I q => h.run pins s σ H Q I (hw σ H Q q)⟩
theorem da_of {t : TA} {post : List D → Own → Prop} (h : PA X es t) (hw : ∀ σ H Q, rdA X.prog X.w ρ O post σ H Q → t σ H Q) : DA X es ρ O post := ⟨fun pos pins s σ H Q I q => h.run pos pins s σ H Q I (hw σ H Q q)⟩
theorem dg_of {ts : List Nat} {t : TG} {d : D} {post : Env' → Own → Prop} (h : PG X e t) (hw : ∀ v σ H Q, rdG X.prog X.w ts ρ d O post v σ H Q → t v σ H Q) : DG X ts e d ρ O post := ⟨fun pins s σ H v u Q I r q => h.run pins s σ H v u Q I r (hw v σ H Q q)⟩
theorem dgs_of {ts : List Nat} {t : TGs} {d : List D} {post : Env' → Own → Prop} (h : PGs X es t) (hw : ∀ v σ H Q, rdGs X.prog X.w ts ρ d O post v σ H Q → t v σ H Q) : DGs X ts es d ρ O post := ⟨fun pins s σ H v u Q I r q => h.run pins s σ H v u Q I r (hw v σ H Q q)⟩
theorem ds_of {t : TS} {p : Post} (h : PS X st t) (hw : ∀ Dn σ H, rdS X.prog X.w ρ O p Dn σ H → t Dn σ H) : DS X st ρ O p := ⟨fun pins s σ H Dn I q => h.run pins s σ H Dn I (hw Dn σ H q)⟩
theorem dss_of {t : TS} {p : Post} (h : PSs X sts t) (hw : ∀ Dn σ H, rdS X.prog X.w ρ O p Dn σ H → t Dn σ H) : DSs X sts ρ O p := ⟨fun pins s σ H Dn I q => h.run pins s σ H Dn I (hw Dn σ H q)⟩
theorem di_of {tg : Expr} {t : TI} {Oz : Own} {k : List D → Own → Prop} (h : PI X tg e t) (hw : ∀ σ H R, rdI X.prog X.w Oz ρ O k σ H R → t σ H R) : DI X tg e Oz ρ O k := ⟨fun pins s σ H R I q => h.run pins s σ H R I (hw σ H R q)⟩
theorem DE.imp {post post' : D → Own → Prop} (h : DE X e ρ O post) (hp : ∀ d O', post d O' → post' d O') : DE X e ρ O post' := de_of h fun σ H Q ⟨I, s, k⟩ => ⟨I, s, fun v J H' d O' g s' dn p => k v J H' d O' g s' dn (hp d O' p)⟩
theorem DT.imp {post post' : Bool → Own → Prop} (h : DT X e ρ O post) (hp : ∀ d O', post d O' → post' d O') : DT X e ρ O post' := dt_of h fun σ H Q ⟨I, s, k⟩ => ⟨I, s, fun v J H' O' g s' p => k v J H' O' g s' (hp v O' p)⟩
theorem EndN.step {P : Program} {w : World} {O O1 : Own} {I H J H1 : Hp} {nx nx' : Env' → Own → Prop} {q : L2.St → Hp → Prop} (h : EndN P w O I H nx q) (g : Grow (adr O) (adr O1) I H J H1) (hi : ∀ ρ O, nx' ρ O → nx ρ O) : EndN P w O1 J H1 nx' q :=
  fun σ' J' H' ρ' O' g' s' p => h σ' J' H' ρ' O' (g.trans g') s' (hi _ _ p)
theorem EndR.step {P : Program} {w : World} {O O1 : Own} {I H J H1 : Hp} {rt rt' : D → Own → Prop} {q : VK} (h : EndR P w O I H rt q) (g : Grow (adr O) (adr O1) I H J H1) (hi : ∀ d O, rt' d O → rt d O) : EndR P w O1 J H1 rt' q :=
  fun v J' H' d O' g' s' dn p => h v J' H' d O' (g.trans g') s' dn (hi _ _ p)
theorem rdS.mk {P : Program} {w : World} {O O1 : Own} {I H J H1 : Hp} {ρ1 : Env'} {σ1 : L2.St} {p : Post} {Dn : Ends} (s1 : Stt P w J H1 ρ1 σ1 O1) (g : Grow (adr O) (adr O1) I H J H1) (h1 : EndN P w O I H p.nx Dn.nx) (h2 : EndR P w O I H p.rt Dn.rt)
    (h3 : EndN P w O I H p.bk Dn.bk) (h4 : EndN P w O I H p.ct Dn.ct) : rdS P w ρ1 O1 p Dn σ1 H1 :=
  ⟨J, s1, h1.step g fun _ _ z => z, h2.step g fun _ _ z => z, h3.step g fun _ _ z => z, h4.step g fun _ _ z => z⟩

/-! ### names, constants -/
theorem de_var {i : Nat} {x : Str} {pos : Pos} {d : D} {post : D → Own → Prop} (hN : X.N[i]? = some x) (hv : Vis X.env.scope x) (hd : (x == ("__debug__" : Str)) = false) (hcd : (x == ("__classdict__" : Str)) = false)
    (e : ρ[i]? = some (some d)) (k : post d O) : DE X (.Name x pos) ρ O post := de_of (pe_var hN hv hd hcd) fun σ H Q ⟨I, s, q⟩ => by
  obtain ⟨v, h1, h2⟩ := s.env i d e
  exact ⟨v, h1, q v I H d O (Grow.refl s.sub) s h2 k⟩
theorem de_c {v : V} {d : D} {post : D → Own → Prop} (h : PE X e (tC v)) (hd : ∀ I, Den I d v) (k : post d O) : DE X e ρ O post := de_of h fun σ H Q ⟨I, s, q⟩ => q v I H d O (Grow.refl s.sub) s (hd I) k
theorem de_int {i : Int} {j pos} {post : D → Own → Prop} (k : post (.int i) O) : DE X (.Constant (.int i) j pos) ρ O post := de_c (d := .int i) pe_int (fun _ => rfl) k
theorem de_str {x : Str} {j pos} {post : D → Own → Prop} (k : post (.str x) O) : DE X (.Constant (.str x) j pos) ρ O post := de_c (d := .str x) pe_str (fun _ => rfl) k
theorem de_bl {b : Bool} {j pos} {post : D → Own → Prop} (k : post (.bl b) O) : DE X (.Constant (.bool b) j pos) ρ O post := de_c (d := .bl b) pe_bl (fun _ => rfl) k
theorem de_non {j pos} {post : D → Own → Prop} (k : post .non O) : DE X (.Constant .none j pos) ρ O post := de_c (d := .non) pe_non (fun _ => rfl) k
theorem de_globI {x : Str} {i : Int} {pos : Pos} {post : D → Own → Prop} (hg : Gl X x) (hm : ∃ t, X.mg x = some (.int i t)) (hd : (x == ("__debug__" : Str)) = false) (k : post (.int i) O) : DE X (.Name x pos) ρ O post := by
  obtain ⟨t, hm⟩ := hm
  exact de_c (d := .int i) (pe_glob hg hm (v := .int i) ⟨t, rfl⟩ hd) (fun _ => rfl) k

/-! ### operators -/
/-- an operator by its values: what it asks of data -/
def RD (P : Program) (w : World) (r : R2) (d1 d2 : D) (O : Own) (post : D → Own → Prop) : Prop := ∀ I H v1 v2, Ex I H → Owns P w I H O → Den I d1 v1 → Den I d2 v2 → ∀ Q : VK,
  (∀ v J H' d O', Grow (adr O) (adr O') I H J H' → Owns P w J H' O' → Den J d v → post d O' → Q v H') → r v1 v2 H Q
theorem op_go {r : R2} {ta tb : TE} {post : D → Own → Prop} (hab : ∀ t, PE X a (aE X a) → PE X b (aE X b) → t = tOp r (aE X a) (aE X b) → PE X e t)
    (ha : DE X a ρ O fun d1 O1 => DE X b ρ O1 fun d2 O2 => RD X.prog X.w r d1 d2 O2 post) : DE X e ρ O post :=
  de_of (hab _ any_e any_e rfl) fun σ H Q ⟨I, s, q⟩ => ⟨ρ, O, _, ha, I, s, fun v1 J1 H1 d1 O1 g1 s1 n1 hb => ⟨ρ, O1, _, hb, J1, s1, fun v2 J2 H2 d2 O2 g2 s2 n2 hr =>
    hr J2 H2 v1 v2 s2.sub s2.own (Den.mono g2.up _ n1) n2 Q fun v J H' d O' g o n p => q v J H' d O' ((g1.trans g2).trans g) (s2.step g o) n p⟩⟩
theorem de_op {op : Operator} {r : R2} {pos : Pos} {post : D → Own → Prop} (ho : OpR X (binaryOp op) r) (ha : DE X a ρ O fun d1 O1 => DE X b ρ O1 fun d2 O2 => RD X.prog X.w r d1 d2 O2 post) : DE X (.BinOp a op b pos) ρ O post :=
  op_go (ta := aE X a) (tb := aE X b) (fun t h1 h2 et => et ▸ pe_op ho h1 h2) ha
theorem de_cmpR {op : CmpOp} {r : R2} {pos : Pos} {post : D → Own → Prop} (ho : OpR X (compareOp op) r) (hm : behindInMarks op b = false) (ha : DE X a ρ O fun d1 O1 => DE X b ρ O1 fun d2 O2 => RD X.prog X.w r d1 d2 O2 post) : DE X (.Compare a [op] [b] pos) ρ O post :=
  op_go (ta := aE X a) (tb := aE X b) (fun t h1 h2 et => et ▸ pe_cmpR ho h1 h2 hm) ha
theorem dt_cmpR {op : CmpOp} {r : R2} {pos : Pos} {post : Bool → Own → Prop} (ho : OpR X (compareOp op) r) (hm : behindInMarks op b = false) (ha : DE X a ρ O fun d1 O1 => DE X b ρ O1 fun d2 O2 => RD X.prog X.w r d1 d2 O2 fun d O' => ∃ k, d = .bl k ∧ post k O') : DT X (.Compare a [op] [b] pos) ρ O post :=
  dt_of (pt_cmpR ho any_e any_e hm) fun σ H Q ⟨I, s, q⟩ => ⟨ρ, O, _, ha, I, s, fun v1 J1 H1 d1 O1 g1 s1 n1 hb => ⟨ρ, O1, _, hb, J1, s1, fun v2 J2 H2 d2 O2 g2 s2 n2 hr =>
    hr J2 H2 v1 v2 s2.sub s2.own (Den.mono g2.up _ n1) n2 _ fun v J H' d O' g o n p => by
      obtain ⟨k, rfl, p⟩ := p
      exact ⟨k, n, q k J H' O' ((g1.trans g2).trans g) (s2.step g o) p⟩⟩⟩
theorem rd_val {P : Program} {w : World} {r : R2} {d1 d2 d : D} {post : D → Own → Prop} {v : V} (h : ∀ I H v1 v2, Ex I H → Owns P w I H O → Den I d1 v1 → Den I d2 v2 → ∀ Q : VK, Q v H → r v1 v2 H Q) (hd : ∀ I, Den I d v) (k : post d O) : RD P w r d1 d2 O post :=
  fun I H v1 v2 hs ho n1 n2 Q q => h I H v1 v2 hs ho n1 n2 Q (q v I H d O (Grow.refl hs) ho (hd I) k)
theorem rd_I {P : Program} {w : World} {C : Int → Int → Prop} {f : Int → Int → Int} {i j : Int} {post : D → Own → Prop} (hc : C i j) (k : post (.int (f i j)) O) : RD P w (rI C fun i j => .int (f i j)) (.int i) (.int j) O post :=
  rd_val (v := .int (f i j)) (d := .int (f i j)) (fun I H v1 v2 _ _ n1 n2 Q q => ⟨i, j, n1, n2, hc, q⟩) (fun _ => rfl) k
theorem rd_I0 {P : Program} {w : World} {f : Int → Int → Int} {i j : Int} {post : D → Own → Prop} (k : post (.int (f i j)) O) : RD P w (rI0 fun i j => .int (f i j)) (.int i) (.int j) O post :=
  rd_val (v := .int (f i j)) (d := .int (f i j)) (fun I H v1 v2 _ _ n1 n2 Q q => ⟨i, j, n1, n2, q⟩) (fun _ => rfl) k
theorem rd_B0 {P : Program} {w : World} {f : Int → Int → Bool} {i j : Int} {post : D → Own → Prop} (k : post (.bl (f i j)) O) : RD P w (rI0 fun i j => .bl (f i j)) (.int i) (.int j) O post :=
  rd_val (v := .bl (f i j)) (d := .bl (f i j)) (fun I H v1 v2 _ _ n1 n2 Q q => ⟨i, j, n1, n2, q⟩) (fun _ => rfl) k
theorem rd_eq {P : Program} {w : World} {d1 d2 : D} {x y : V} {post : D → Own → Prop} (h1 : ∀ I v, Den I d1 v → v = x) (h2 : ∀ I v, Den I d2 v → v = y) (hs : scal x y = true) (k : post (.bl (decide (x = y))) O) : RD P w rEq d1 d2 O post :=
  rd_val (v := .bl (decide (x = y))) (d := .bl (decide (x = y))) (fun I H v1 v2 _ _ n1 n2 Q q => by rw [h1 I v1 n1, h2 I v2 n2]; exact ⟨hs, q⟩) (fun _ => rfl) k
theorem rd_ne {P : Program} {w : World} {d1 d2 : D} {x y : V} {post : D → Own → Prop} (h1 : ∀ I v, Den I d1 v → v = x) (h2 : ∀ I v, Den I d2 v → v = y) (hs : scal x y = true) (k : post (.bl (!decide (x = y))) O) : RD P w rNe d1 d2 O post :=
  rd_val (v := .bl (!decide (x = y))) (d := .bl (!decide (x = y))) (fun I H v1 v2 _ _ n1 n2 Q q => by rw [h1 I v1 n1, h2 I v2 n2]; exact ⟨hs, q⟩) (fun _ => rfl) k
theorem dI_eq {i j : Int} : decide (V.int i = V.int j) = decide (i = j) := by
  by_cases h : i = j
  · subst h; simp
  · rw [decide_eq_false h, decide_eq_false fun e => h (V.int.inj e)]
theorem rd_eqI {P : Program} {w : World} {i j : Int} {post : D → Own → Prop} (k : post (.bl (decide (i = j))) O) : RD P w rEq (.int i) (.int j) O post :=
  rd_eq (x := .int i) (y := .int j) (fun _ _ h => h) (fun _ _ h => h) rfl (by rw [dI_eq]; exact k)
theorem rd_neI {P : Program} {w : World} {i j : Int} {post : D → Own → Prop} (k : post (.bl (!decide (i = j))) O) : RD P w rNe (.int i) (.int j) O post :=
  rd_ne (x := .int i) (y := .int j) (fun _ _ h => h) (fun _ _ h => h) rfl (by rw [dI_eq]; exact k)

/-! ### blocks -/
theorem dss_nil {p : Post} (k : p.nx ρ O) : DSs X [] ρ O p := dss_of pss_nil fun Dn σ H ⟨I, s, h1, _⟩ => h1 σ I H ρ O (Grow.refl s.sub) s k
theorem dss_cons {p : Post} (h : DS X st ρ O { p with nx := fun ρ' O' => DSs X sts ρ' O' p }) : DSs X (st :: sts) ρ O p :=
  dss_of (pss_cons any_s any_ss) fun Dn σ H ⟨I, s, h1, h2, h3, h4⟩ => ⟨ρ, O, _, h, I, s, fun σ' J H' ρ' O' g s' hs => ⟨ρ', O', p, hs, rdS.mk s' g h1 h2 h3 h4⟩, h2, h3, h4⟩
theorem dss_one {p : Post} (h : DS X st ρ O p) : DSs X [st] ρ O p := dss_of (pss_one any_s) fun Dn σ H q => ⟨ρ, O, p, h, q⟩
theorem ds_ret {pos : Pos} {p : Post} (h : DE X e ρ O p.rt) : DS X (.Return (some e) pos) ρ O p :=
  ds_of (ps_ret any_e) fun Dn σ H ⟨I, s, h1, h2, h3, h4⟩ => ⟨ρ, O, _, h, I, s, fun v J H' d O' g s' n q => h2 v J H' d O' g s'.own n q⟩
theorem ds_asg {tg : Expr} {ts : List Nat} {pos : Pos} {p : Post} (h : DE X e ρ O fun d O' => DG X ts tg d ρ O' p.nx) (hs : swapsWithSole [tg] e pos.line X.env = pure false) (hw : swappedStores [tg] e X.env = pure none)
    (h1 : (assignEach [tg] X.env).map (·.2) = [assign tg X.env]) : DS X (.Assign [tg] e pos) ρ O p :=
  ds_of (ps_asg any_e (any_g (ts := ts)) hs hw h1) fun Dn σ H ⟨I, s, k1, k2, k3, k4⟩ => ⟨ρ, O, _, h, I, s, fun v J H' d O' g s' n q => ⟨ρ, d, O', _, q, J, s', n, fun σ' J2 H2 ρ2 O2 g2 s2 _ q2 => k1 σ' J2 H2 ρ2 O2 (g.trans g2) s2 q2⟩⟩
theorem ds_set {i : Nat} {x : Str} {pos pos' : Pos} {p : Post} (hN : X.N.Nodup) (hi : X.N[i]? = some x) (hx : Loc X.env.scope x) (hs : swapsWith e (some (.Name x pos')) pos.line X.env = pure false) (hf : X.fn x = true ∨ X.env.scope.names.lookup x = some .local)
    (h : DE X e ρ O fun d O' => p.nx (ρ.set i (some d)) O') : DS X (.Assign [.Name x pos'] e pos) ρ O p :=
  ds_of (ps_set hN hi hx any_e hs hf) fun Dn σ H ⟨I, s, k1, k2, k3, k4⟩ => ⟨ρ, O, _, h, I, s, fun v J H' d O' g s' n q => k1 _ J H' _ O' g (s'.set i n) q⟩
theorem dg_name {i : Nat} {x : Str} {pos : Pos} {d : D} {post : Env' → Own → Prop} (hN : X.N.Nodup) (hi : X.N[i]? = some x) (hx : Loc X.env.scope x) (hf : X.fn x = true ∨ X.env.scope.names.lookup x = some .local)
    (k : post (ρ.set i (some d)) O) : DG X [i] (.Name x pos) d ρ O post :=
  dg_of (pg_name hN hi hx hf) fun v σ H Q ⟨I, s, n, q⟩ => q _ I H _ O (Grow.refl s.sub) (s.set i n) ⟨List.length_set, fun j hj => List.getElem?_set_ne (fun e => hj (by simp [e]))⟩ k
theorem ds_if {c : Expr} {xs ys : List Stmt} {pos : Pos} {p : Post} (h : DT X c ρ O fun b O' => if b = true then DSs X xs ρ O' p else DSs X ys ρ O' p) : DS X (.If c xs ys pos) ρ O p :=
  ds_of (ps_if any_t any_ss any_ss) fun Dn σ H ⟨I, s, h1, h2, h3, h4⟩ => ⟨ρ, O, _, h, I, s, fun b J H' O' g s' q => by
    cases b with
    | true => exact ⟨ρ, O', p, q, rdS.mk s' g h1 h2 h3 h4⟩
    | false => exact ⟨ρ, O', p, q, rdS.mk s' g h1 h2 h3 h4⟩⟩
theorem ds_expr {pos : Pos} {p : Post} (hs : swapsWith e none pos.line X.env = pure false) (h : DE X e ρ O fun _ O' => p.nx ρ O') : DS X (.Expr e pos) ρ O p :=
  ds_of (ps_expr any_e hs) fun Dn σ H ⟨I, s, k1, k2, k3, k4⟩ => ⟨ρ, O, _, h, I, s, fun v J H' d O' g s' n q => k1 σ J H' ρ O' g s' q⟩
/-- code that is not reached -/
theorem ds_never {p : Post} (h : False) : DS X st ρ O p := h.elim
theorem ds_break {pos : Pos} {p : Post} (h : p.bk ρ O) : DS X (.Break pos) ρ O p := ds_of ps_break fun Dn σ H ⟨I, s, _, _, h3, _⟩ => h3 σ I H ρ O (Grow.refl s.sub) s h
theorem ds_continue {pos : Pos} {p : Post} (h : p.ct ρ O) : DS X (.Continue pos) ρ O p := ds_of ps_continue fun Dn σ H ⟨I, s, _, _, _, h4⟩ => h4 σ I H ρ O (Grow.refl s.sub) s h

/-! ### while -/
theorem ds_while {c : Expr} {body : List Stmt} {pos : Pos} {p : Post} (hp : PassesOwn (model X.prog X.w) X.A X.env X.xe) (Iv : Nat → Env' → Own → Prop) (m : Nat) (h0 : Iv m ρ O)
    (hs : ∀ m ρ O, Iv m ρ O → DT X c ρ O fun b O' => if b = true then DSs X body ρ O' { p with nx := fun ρ2 O2 => ∃ m', m' < m ∧ Iv m' ρ2 O2, ct := fun ρ2 O2 => ∃ m', m' < m ∧ Iv m' ρ2 O2, bk := p.nx } else p.nx ρ O') : DS X (.While c body [] pos) ρ O p :=
  ds_of (ps_while hp any_t any_ss) fun Dn σ H ⟨I, s, k1, k2, k3, k4⟩ => by
    refine ⟨fun m σ' H' => ∃ J ρ' O', Grow (adr O) (adr O') I H J H' ∧ Stt X.prog X.w J H' ρ' σ' O' ∧ Iv m ρ' O', ⟨m, I, ρ, O, Grow.refl s.sub, s, h0⟩, ?_⟩
    rintro m σ' H' ⟨J, ρ', O', g, s', iv⟩
    refine ⟨ρ', O', _, hs m ρ' O' iv, J, s', fun b J2 H2 O2 g2 s2 q => ?_⟩
    cases b with
    | true =>
      rw [if_pos rfl] at q ⊢
      refine ⟨fun σ3 H3 => ∃ m', m' < m ∧ ∃ J ρ' O', Grow (adr O) (adr O') I H J H3 ∧ Stt X.prog X.w J H3 ρ' σ3 O' ∧ Iv m' ρ' O', fun σ3 H3 z => z, ρ', O2, _, q, J2, s2, ?_, k2.step (g.trans g2) fun _ _ z => z, k1.step (g.trans g2) fun _ _ z => z, ?_⟩
      · rintro σ3 J3 H3 ρ3 O3 g3 s3 ⟨m', l, iv3⟩
        exact ⟨m', l, J3, ρ3, O3, (g.trans g2).trans g3, s3, iv3⟩
      · rintro σ3 J3 H3 ρ3 O3 g3 s3 ⟨m', l, iv3⟩
        exact ⟨m', l, J3, ρ3, O3, (g.trans g2).trans g3, s3, iv3⟩
    | false =>
      rw [if_neg Bool.false_ne_true] at q ⊢
      exact k1 σ' J2 H2 ρ' O2 (g.trans g2) s2 q
/-! ### for -/
theorem ds_for {tg iter : Expr} {ts : List Nat} {body : List Stmt} {pos : Pos} {p : Post} (hp : PassesOwn (model X.prog X.w) X.A X.env X.xe) (hc : X.calm = true) (hs : ∀ x, foldedSetIterable iter X.env x = pure x)
    (h : DI X tg iter [] ρ O fun ds O1 => ∃ Iv : Nat → Env' → Own → Prop, Iv 0 ρ O1 ∧
      (∀ i d ρ' O', ds[i]? = some d → Iv i ρ' O' → DG X ts tg d ρ' O' fun ρ2 O2 => DSs X body ρ2 O2 { p with nx := Iv (i + 1), ct := Iv (i + 1), bk := p.nx }) ∧ ∀ ρ' O', Iv ds.length ρ' O' → p.nx ρ' O') : DS X (.For tg iter body [] pos) ρ O p :=
  ds_of (ps_for hp hc h (any_g (ts := ts)) any_ss hs) fun Dn σ H ⟨I, s, k1, k2, k3, k4⟩ => by
    refine ⟨I, s, fun Jt J H1 ds O1 g1 s1 lk q => ?_⟩
    obtain ⟨Iv, h0, ht, hd⟩ := q
    refine ⟨fun i m σ' H' => m = ds.length - i ∧ i ≤ ds.length ∧ ∃ J' ρ' O', Grow (adr O1) (adr O') J H1 J' H' ∧ Stt X.prog X.w J' H' ρ' σ' O' ∧ Iv i ρ' O', ⟨ds.length, by simp, Nat.zero_le _, J, ρ, O1, Grow.refl s1.sub, s1, h0⟩, ?_⟩
    rintro i m σ' H' ⟨rfl, hi, J', ρ', O', g', s', iv⟩
    obtain ⟨l1, l2, l3⟩ := lk J' H' O' g'.up s'.sub s'.own (fun q h => (nomatch h))
    by_cases hlt : i < ds.length
    · refine .inr ⟨l1 i hlt, fun σ3 H3 => ∃ J3 ρ3 O3, Grow (adr O1) (adr O3) J H1 J3 H3 ∧ Stt X.prog X.w J3 H3 ρ3 σ3 O3 ∧ Iv (i + 1) ρ3 O3, fun σ3 H3 z => ⟨ds.length - (i + 1), by omega, rfl, hlt, z⟩, fun x H2 y => ?_⟩
      have hd0 : ds[i]? = some ds[i] := List.getElem?_eq_getElem hlt
      obtain ⟨I2, gg, n⟩ := l3 i x H2 ds[i] hd0 y
      have gg2 : Grow (adr O') (adr O') J' H' I2 H2 := ⟨gg.up, gg.sub, fun a o _ e => gg.kp a o (by simp) e, fun a o _ e e2 => gg.nw a o (by simp) e e2, fun a h => .inl h⟩
      have s2 : Stt X.prog X.w I2 H2 ρ' σ' O' := s'.step gg2 ((s'.own).frame gg (fun _ _ z => by cases z))
      refine ⟨ρ', ds[i], O', _, ht i ds[i] ρ' O' hd0 iv, I2, s2, n, fun σ4 J4 H4 ρ4 O4 g4 s4 _ q4 => ?_⟩
      have gA : Grow (adr O1) (adr O4) J H1 J4 H4 := (g'.trans gg2).trans g4
      refine ⟨ρ4, O4, _, q4, J4, s4, ?_, k2.step (g1.trans gA) fun _ _ z => z, k1.step (g1.trans gA) fun _ _ z => z, ?_⟩
      · intro σ5 J5 H5 ρ5 O5 g5 s5 z
        exact ⟨J5, ρ5, O5, gA.trans g5, s5, z⟩
      · intro σ5 J5 H5 ρ5 O5 g5 s5 z
        exact ⟨J5, ρ5, O5, gA.trans g5, s5, z⟩
    · have e : i = ds.length := by omega
      subst e
      exact .inl ⟨l2, k1 σ' J' H' ρ' O' (g1.trans g') s' (hd ρ' O' iv)⟩
end
end AB
namespace AB
open PySem PySem.Spec PyProof.Rows L2

section
variable {X : Cx} {e a b : Expr} {es : List Expr} {st : Stmt} {sts : List Stmt} {ρ : Env'} {O : Own}
theorem da_nil {post : List D → Own → Prop} (k : post [] O) : DA X [] ρ O post := da_of pa_nil fun σ H Q ⟨I, s, q⟩ => q [] I H [] O (Grow.refl s.sub) s rfl k
theorem da_cons {post : List D → Own → Prop} (hs : starEach (e :: es) X.env = (false, eval e X.env) :: starEach es X.env) (h : DE X e ρ O fun d O1 => DA X es ρ O1 fun ds O2 => post (d :: ds) O2) : DA X (e :: es) ρ O post :=
  da_of (pa_cons any_e any_a hs) fun σ H Q ⟨I, s, q⟩ => ⟨ρ, O, _, h, I, s, fun v J H1 d O1 g s1 n h2 => ⟨ρ, O1, _, h2, J, s1, fun vs J2 H2 ds O2 g2 s2 n2 k => q (v :: vs) J2 H2 (d :: ds) O2 (g.trans g2) s2 (DenL.cons (Den.mono g2.up _ n) n2) k⟩⟩
/-- a call by its values -/
def RC (P : Program) (w : World) (r : List V → Hp → VK → Prop) (ds : List D) (O : Own) (post : D → Own → Prop) : Prop := ∀ I H vs, Ex I H → Owns P w I H O → DenL I ds vs → ∀ Q : VK,
  (∀ v J H' d O', Grow (adr O) (adr O') I H J H' → Owns P w J H' O' → Den J d v → post d O' → Q v H') → r vs H Q
theorem de_callB {id : String} {r : List V → Hp → VK → Prop} {x : Str} {p pos : Pos} {post : D → Own → Prop} (hc : CallR X (.builtin id) r) (hg : Gl X x) (hm : X.mg x = none) (hv : bootBuiltins x = some (.builtin id)) (hn : x ≠ "__name__") (hdb : (x == ("__debug__" : Str)) = false)
    (hst : starEach (e :: es) X.env = (false, eval e X.env) :: starEach es X.env) (hpl : (backTo pos (starEach es X.env)).any (·.1) = false)
    (ha : DA X (e :: es) ρ O fun ds O1 => RC X.prog X.w r ds O1 post) : DE X (.Call (.Name x p) (e :: es) [] pos) ρ O post :=
  de_of (pe_callB hc hg hm hv any_a hn hdb hst hpl) fun σ H Q ⟨I, s, q⟩ => ⟨ρ, O, _, ha, I, s, fun vs J H1 ds O1 g s1 n h => h J H1 vs s1.sub s1.own n Q fun v J2 H2 d O2 g2 o2 n2 k => q v J2 H2 d O2 (g.trans g2) (s1.step g2 o2) n2 k⟩
theorem de_callTy {T : String} {r : List V → Hp → VK → Prop} {x : Str} {p pos : Pos} {post : D → Own → Prop} (hc : CallR X (.type T) r) (hg : Gl X x) (hm : X.mg x = none) (hv : bootBuiltins x = some (.type T)) (hn : x ≠ "__name__") (hdb : (x == ("__debug__" : Str)) = false)
    (hst : starEach (e :: es) X.env = (false, eval e X.env) :: starEach es X.env) (hpl : (backTo pos (starEach es X.env)).any (·.1) = false)
    (ha : DA X (e :: es) ρ O fun ds O1 => RC X.prog X.w r ds O1 post) : DE X (.Call (.Name x p) (e :: es) [] pos) ρ O post :=
  de_of (pe_callTy hc hg hm hv any_a hn hdb hst hpl) fun σ H Q ⟨I, s, q⟩ => ⟨ρ, O, _, ha, I, s, fun vs J H1 ds O1 g s1 n h => h J H1 vs s1.sub s1.own n Q fun v J2 H2 d O2 g2 o2 n2 k => q v J2 H2 d O2 (g.trans g2) (s1.step g2 o2) n2 k⟩
theorem rc_val {P : Program} {w : World} {r : List V → Hp → VK → Prop} {ds : List D} {d : D} {post : D → Own → Prop} {v : V} (h : ∀ I H vs, Ex I H → Owns P w I H O → DenL I ds vs → ∀ Q : VK, Q v H → r vs H Q) (hd : ∀ I, Den I d v) (k : post d O) : RC P w r ds O post :=
  fun I H vs hs ho n Q q => h I H vs hs ho n Q (q v I H d O (Grow.refl hs) ho (hd I) k)
theorem den1 {I : Hp} {d : D} {vs : List V} (h : DenL I [d] vs) : ∃ v, vs = [v] ∧ Den I d v := by
  obtain ⟨y, ys, r, n, l⟩ := h
  rw [show ys = [] from l] at r
  exact ⟨y, r, n⟩
theorem den2 {I : Hp} {d1 d2 : D} {vs : List V} (h : DenL I [d1, d2] vs) : ∃ v1 v2, vs = [v1, v2] ∧ Den I d1 v1 ∧ Den I d2 v2 := by
  obtain ⟨y, ys, r, n, l⟩ := h
  obtain ⟨v2, e, n2⟩ := den1 l
  exact ⟨y, v2, by rw [r, e], n, n2⟩
theorem rc_abs {P : Program} {w : World} {i : Int} {post : D → Own → Prop} (k : post (.int (if i < 0 then -i else i)) O) : RC P w (fun xs H Q => ∃ i, xs = [.int i] ∧ Q (.int (if i < 0 then -i else i)) H) [.int i] O post :=
  rc_val (v := .int (if i < 0 then -i else i)) (d := .int (if i < 0 then -i else i)) (fun I H vs _ _ n Q q => by
    obtain ⟨v, rfl, e⟩ := den1 n
    exact ⟨i, by rw [show v = _ from e], q⟩) (fun _ => rfl) k
theorem ds_par {i j : Nat} {x y : Str} {px py pt pos : Pos} {kt : Nat} {k2 : Nat} {pt2 : Pos} {p : Post} (hc : X.calm = true) (hN : X.N.Nodup) (hi : X.N[i]? = some x) (hj : X.N[j]? = some y) (hij : i ≠ j)
    (hx : X.env.scope.names.lookup x = some .local) (hy : X.env.scope.names.lookup y = some .local)
    (hw : swappedStores [.Tuple [.Name x px, .Name y py] kt pt] (.Tuple [a, b] k2 pt2) X.env = pure (some [x, y]))
    (hs : swapsWithSole [.Tuple [.Name x px, .Name y py] kt pt] (.Tuple [a, b] k2 pt2) pos.line X.env = pure false)
    (h : DA X [a, b] ρ O fun ds O' => ∃ d1 d2, ds = [d1, d2] ∧ p.nx ((ρ.set i (some d1)).set j (some d2)) O') : DS X (.Assign [.Tuple [.Name x px, .Name y py] kt pt] (.Tuple [a, b] k2 pt2) pos) ρ O p :=
  ds_of (ps_par hc hN hi hj hij hx hy any_a hw hs) fun Dn σ H ⟨I, s, k1, k2, k3, k4⟩ => ⟨ρ, O, _, h, I, s, fun vs J H1 ds O1 g s1 n q => by
    obtain ⟨d1, d2, rfl, q⟩ := q
    obtain ⟨v1, v2, rfl, n1, n2⟩ := den2 n
    exact ⟨v1, v2, rfl, k1 _ J H1 _ O1 g ((s1.set i n1).set j n2) q⟩⟩

/-! ### defs -/
abbrev FS := List D → Own → (D → Own → Prop) → Prop
def spD (P : Program) (w : World) (F : FS) : Sp := fun vs H Q _ => ∃ I ds O post, Ex I H ∧ Owns P w I H O ∧ DenL I ds vs ∧ F ds O post ∧
  ∀ v J H' d O', Grow (adr O) (adr O') I H J H' → Owns P w J H' O' → Den J d v → post d O' → Q v H'
def startD (N : List Str) (ds : List D) : Env' := ds.map some ++ List.replicate (N.length - ds.length) none
theorem start_stt {P : Program} {w : World} {I H : Hp} {N : List Str} {ds : List D} {vs : List V} (e : Ex I H) (o : Owns P w I H O) (n : DenL I ds vs) : Stt P w I H (startD N ds) (L2.start N vs) O := by
  refine ⟨e, ?_, fun i d q => ?_, o⟩
  · unfold startD L2.start
    rw [List.length_append, List.length_append, List.length_map, List.length_map, List.length_replicate, List.length_replicate, n.length]
  · unfold startD at q
    unfold L2.start
    by_cases hi : i < ds.length
    · rw [List.getElem?_append_left (by simpa using hi), List.getElem?_map] at q
      cases hd : ds[i]? with
      | none => rw [hd] at q; cases q
      | some d' =>
        rw [hd] at q
        simp at q
        subst q
        obtain ⟨v, h1, h2⟩ := n.get hd
        refine ⟨v, ?_, h2⟩
        have hl := n.length
        rw [List.getElem?_append_left (by simp; omega), List.getElem?_map, h1]
        rfl
    · rw [List.getElem?_append_right (by simpa using hi)] at q
      have hm := List.mem_of_getElem? q
      have := List.eq_of_mem_replicate hm
      cases this
abbrev endP (post : D → Own → Prop) : Post := { nx := fun _ O' => post .non O', rt := post }
theorem fokX {P : Program} {w : World} {K : PySem.W.Frag} {mg : Str → Option Value} {base : Heap} {x qual : Str} {params : Arguments} {body : List Stmt} {scope : Scope} {dvs : List V} {kws : List (Str × V)} {f : Addr} {fd : FuncData} {N ps : List Str} {k : Nat} {F : FS}
    (Fd : FunD K x qual params body scope dvs kws f fd) (S : FnScope N ps scope) (hl : ∀ ds O post, F ds O post → ds.length = ps.length)
    (hb : ∀ (cdv : Value) (A : Around) (outer : List Env) (s : Shared) (H : Hp) (E : XK) (ds : List D) (O : Own) (post : D → Own → Prop), Room k (A.deeper (envOfC qual scope s.heap.objs.size f cdv)) → F ds O post →
      DSs (cxOf CX0 P w K mg base N qual scope f cdv A outer s H E).nox body (startD N ds) O (endP post)) : FnOk P w K mg base CX0 (k + 1) f fd ps (spD P w F) := by
  refine Fd.ok S (fun vs H Q E h => ?_) (fun cdv A outer s H vs Q E hr h => ?_)
  · obtain ⟨I, ds, O, post, _, _, n, hF, _⟩ := h
    rw [← n.length]
    exact hl _ _ _ hF
  · obtain ⟨I, ds, O, post, e, o, n, hF, q⟩ := h
    refine ⟨_, PSs.nox (hb cdv A outer s H E ds O post hr hF), I, start_stt e o n, ?_, ?_, ?_, ?_⟩
    · intro σ' J H' ρ' O' g s' p
      exact q .non J H' .non O' g s'.own rfl p
    · intro v J H' d O' g o' n' p
      exact q v J H' d O' g o' n' p
    · intro _ _ _ _ _ _ _ z
      exact z.elim
    · intro _ _ _ _ _ _ _ z
      exact z.elim
/-- the owned objects of a caller around a call -/
theorem frame_call {P : Program} {w : World} {Oa Ob O' : Own} {I H J H' : Hp} (o : Owns P w I H (Oa ++ Ob)) (g : Grow (adr Oa) (adr O') I H J H') (o' : Owns P w J H' O') :
    Grow (adr (Oa ++ Ob)) (adr (O' ++ Ob)) I H J H' ∧ Owns P w J H' (O' ++ Ob) := by
  have dj := o.disj
  have fb := o.right.frame g (fun a ha hb => dj a hb ha)
  have mem : ∀ {a : Addr} {A B : Own}, a ∈ adr (A ++ B) ↔ a ∈ adr A ∨ a ∈ adr B := fun {a A B} => by
    unfold adr
    rw [List.map_append, List.mem_append]
  refine ⟨⟨g.up, g.sub, fun a u n h => g.kp a u (fun z => n (mem.mpr (.inl z))) h, fun a u n h hi => g.nw a u (fun z => n (mem.mpr (.inl z))) h hi, fun a h => ?_⟩, o'.append fb fun a ha hb => ?_⟩
  · rcases mem.mp h with h | h
    · rcases g.fr a h with z | z
      · exact .inl (mem.mpr (.inl z))
      · exact .inr z
    · exact .inl (mem.mpr (.inr h))
  · rcases g.fr a ha with z | z
    · exact dj a z hb
    · obtain ⟨⟨u, hu⟩, _⟩ := o.right.there hb
      rw [hu] at z; cases z
theorem Grow.perm {S S' T T' : List Addr} {I H J H' : Hp} (g : Grow S S' I H J H') (h : ∀ a, a ∈ S ↔ a ∈ T) (h' : ∀ a, a ∈ T' → a ∈ S') : Grow T T' I H J H' :=
  ⟨g.up, g.sub, fun a u n => g.kp a u fun z => n ((h a).mp z), fun a u n => g.nw a u fun z => n ((h a).mp z), fun a m => (g.fr a (h' a m)).imp (h a).mp id⟩
theorem de_call {k : Nat} {f : Addr} {fd : FuncData} {ps : List Str} {F : FS} {x : Str} {p pos : Pos} {post : D → Own → Prop} (G : FnOk X.prog X.w X.K X.mg X.base CX0 k f fd ps (spD X.prog X.w F)) (hr : Room k X.A) (hm : X.mg x = some (.ref f)) (hk : PySem.W.keepIn X.K (.ref f) = true) (hb : Binds X.K fd ps [])
    (hg : Gl X x) (hdb : (x == ("__debug__" : Str)) = false) (hst : starEach (e :: es) X.env = (false, eval e X.env) :: starEach es X.env) (hpl : (backTo pos (starEach es X.env)).any (·.1) = false)
    (ha : DA X (e :: es) ρ O fun ds O1 => ∃ Oa Ob, O1.Perm (Oa ++ Ob) ∧ F ds Oa fun d O' => post d (O' ++ Ob)) : DE X (.Call (.Name x p) (e :: es) [] pos) ρ O post :=
  de_of (pe_call G hr hg hm hk hb .nil pass0 any_a hdb hst hpl) fun σ H Q ⟨I, s, q⟩ => ⟨ρ, O, _, ha, I, s, fun vs J H1 ds O1 g s1 n h => by
    obtain ⟨Oa, Ob, hp, hF⟩ := h
    have o1 := s1.own.perm hp
    rw [List.append_nil]
    refine ⟨J, ds, Oa, _, s1.sub, o1.left, n, hF, fun v J2 H2 d O2 g2 o2 n2 k => ?_⟩
    obtain ⟨g3, o3⟩ := frame_call o1 g2 o2
    have g4 : Grow (adr O1) (adr (O2 ++ Ob)) J H1 J2 H2 := g3.perm (fun a => (hp.map _).mem_iff.symm) fun a m => m
    exact q v J2 H2 d (O2 ++ Ob) (g.trans g4) (s1.step g4 o3) n2 k⟩
/-- a call without owned objects -/
theorem de_call0 {k : Nat} {f : Addr} {fd : FuncData} {ps : List Str} {F : FS} {x : Str} {p pos : Pos} {post : D → Own → Prop} (G : FnOk X.prog X.w X.K X.mg X.base CX0 k f fd ps (spD X.prog X.w F)) (hr : Room k X.A) (hm : X.mg x = some (.ref f)) (hk : PySem.W.keepIn X.K (.ref f) = true) (hb : Binds X.K fd ps [])
    (hg : Gl X x) (hdb : (x == ("__debug__" : Str)) = false) (hst : starEach (e :: es) X.env = (false, eval e X.env) :: starEach es X.env) (hpl : (backTo pos (starEach es X.env)).any (·.1) = false)
    (ha : DA X (e :: es) ρ O fun ds O1 => F ds [] fun d O' => post d (O' ++ O1)) : DE X (.Call (.Name x p) (e :: es) [] pos) ρ O post :=
  de_call G hr hm hk hb hg hdb hst hpl (ha_imp ha)
where
  ha_imp {F : FS} {post : D → Own → Prop} (ha : DA X (e :: es) ρ O fun ds O1 => F ds [] fun d O' => post d (O' ++ O1)) : DA X (e :: es) ρ O fun ds O1 => ∃ Oa Ob, O1.Perm (Oa ++ Ob) ∧ F ds Oa fun d O' => post d (O' ++ Ob) :=
    da_of ha fun σ H Q ⟨I, s, q⟩ => ⟨I, s, fun v J H' d O' g s' n p => q v J H' d O' g s' n ⟨[], O', List.Perm.refl _, p⟩⟩
end
end AB
namespace AB
open PySem PySem.Spec PyProof.Rows L2

/-! ### dicts with nested keys, by values -/
structure ND (P : Program) (w : World) (H : Hp) (p : Addr) (xs : List (NestedKey × Addr × Value)) : Prop where
  at_ : Rd H p (.ext (rawD P w p xs))
  nd : (xs.map (·.1)).Nodup
  ks : ∀ x ∈ xs, Den H (kD x.1) (.ref x.2.1) ∧ x.1.depth ≤ 8
section
variable {P : Program} {w : World} {H : Hp} {h : Heap}
mutual
theorem den_key (ok : HOk P w H h) : ∀ (k : NestedKey) {v : V} {u : Value}, Den H (kD k) v → RelV v u → NestedIs h k u
  | .none, v, u, d, r => by
    rw [kD] at d; rw [show v = _ from d] at r; rw [show u = _ from r]; exact .none
  | .num i, v, u, d, r => by
    rw [kD] at d; rw [show v = _ from d] at r; obtain ⟨t, rfl⟩ := r; exact .int i t
  | .text x, v, u, d, r => by
    rw [kD] at d; rw [show v = _ from d] at r; obtain ⟨t, rfl⟩ := r; exact .text x t
  | .tup ks, v, u, d, r => by
    rw [kD] at d
    obtain ⟨a, xs, rfl, ha, l⟩ := d
    rw [show u = Value.ref a from r]
    obtain ⟨_, its, rv, o, ho, hc, n, hd⟩ := ok a _ ha
    exact .tup ho hc hd (by simpa using den_keys ok ks l rv)
theorem den_keys (ok : HOk P w H h) : ∀ (ks : List NestedKey) {xs : List V} {us : List Value}, DenL H (kDs ks) xs → Vals xs us → NestedAll h ks us
  | [], xs, us, l, r => by
    rw [kDs] at l; rw [show xs = [] from l] at r; cases r; exact .nil
  | k :: ks, xs, us, l, r => by
    rw [kDs] at l
    obtain ⟨y, ys, rfl, d, l⟩ := l
    cases r with
    | cons r rr => exact .cons (den_key ok k d r) (den_keys ok ks l rr)
end
theorem ND.dict {p : Addr} {xs : List (NestedKey × Addr × Value)} (d : ND P w H p xs) (ok : HOk P w H h) : h.DictOfH (nestedKind P w) p xs ∧ (p == sysModules) = false := by
  obtain ⟨⟨o, es, ep, h1, h2, h3, h4, h5⟩, _⟩ := d.at_.ok ok
  exact ⟨⟨o, es, ep, h1, h2, h3, h4, fun x hx => ⟨den_key ok _ (d.ks x hx).1 rfl, (d.ks x hx).2⟩, d.nd⟩, h5⟩
theorem rawD_ok {p : Addr} {xs : List (NestedKey × Addr × Value)} {H' : Hp} (d : h.DictOfH (nestedKind P w) p xs) (hs : (p == sysModules) = false) : ObjOk P w H' h p (.ext (rawD P w p xs)) := by
  obtain ⟨o, es, ep, h1, h2, h3, h4, _, _⟩ := d
  exact ⟨⟨o, es, ep, h1, h2, h3, h4, hs⟩, ⟨o, h1⟩, fun g1 g2 ⟨o, es, ep, h1, h2, h3, h4, hs⟩ k => ⟨o, es, ep, k o h1, h2, h3, h4, hs⟩⟩
end
section
variable {X : Cx} {o i e f : Expr} {td ty tx : TE} {pos apos cpos : Pos}
theorem room9 {k : Nat} {A : Around} (hr : Room k A) : A.units + 9 < cLine := Nat.lt_of_le_of_lt (by omega) hr.units
/-- {} -/
theorem pe_dnewN : PE X (.Dict [] [] pos) (fun _ H Q => ∀ p, H p = none → Q (.ref p) (upd H p (.ext (rawD X.prog X.w p [])))) := ⟨fun pins s σ H Q I h =>
  wpAny_Dict_empty ⟨.ref s.heap.objs.size, _, I.laid (a := s.heap.objs.size) (o := .ext (rawD X.prog X.w s.heap.objs.size [])) (t' := s.toks) (fun _ _ q => Heap.get?_push_of_some _ q) (Nat.le_refl _)
    (rawD_ok (Heap.DictOfH.new s.heap) (beq_eq_false_iff_ne.mpr (Ne.symm (Nat.ne_of_lt I.big)))), rfl, h _ (I.hok.fresh (Nat.le_refl _))⟩⟩
/-- what is asked of a look-up -/
def NGet (P : Program) (w : World) (H : Hp) (x y : V) (R : Option (Addr × Value) → Prop) : Prop := ∃ p a xs k, x = .ref p ∧ y = .ref a ∧ ND P w H p xs ∧ Den H (kD k) (.ref a) ∧ k.depth ≤ 8 ∧ R (atKey xs k)
theorem pe_nget (hu : X.A.units + 9 < cLine) (ho : PE X o td) (hi : PE X i ty) (hs : NoSl i) : PE X (.Subscript o i pos) (fun σ H Q => td σ H fun x H1 => ty σ H1 fun y H2 => NGet X.prog X.w H2 x y fun r => ∃ q, r = some q ∧ ∃ v, RelV v q.2 ∧ Q v H2) := by
  refine ⟨fun pins s σ H Q I h => ?_⟩
  refine subD_of PySem.F.slot_dict_getitem.lookup hs (thn (ho.run pins s σ H _ I h) fun u s1 ⟨x, H1, I1, rx, q1⟩ => thn (hi.run pins s1 σ H1 _ I1 q1) fun iv s2 ⟨y, H2, I2, ry, p, a, xs, k, ex, ey, d, dk, dp, q, hq, v, rv, q2⟩ => ?_)
  subst ex
  subst ey
  obtain rfl : u = Value.ref p := rx
  obtain rfl : iv = Value.ref a := ry
  obtain ⟨dd, hs⟩ := d.dict I2.hok
  exact ⟨dd.typeIs, wpAny_getItem_heap (knd := nestedKind X.prog X.w) (k := k) (show X.A.in1.units + 8 < cLine by show X.A.units + 1 + 8 < cLine; omega) ⟨den_key I2.hok k dk rfl, dp⟩ dd hq ⟨v, H2, I2.tok _, rv, q2⟩⟩
theorem op_ninN (hu : X.A.units + 9 < cLine) : OpR X (compareOp .NotIn) (fun y x H Q => NGet X.prog X.w H x y fun r => Q (.bl (!r.isSome)) H) := by
  intro pins s σ H y x iv u Q I ry rx h
  obtain ⟨p, a, xs, k, rfl, rfl, d, dk, dp, q⟩ := h
  obtain rfl : u = Value.ref p := rx
  obtain rfl : iv = Value.ref a := ry
  obtain ⟨dd, hs⟩ := d.dict I.hok
  show wpAny _ _ (do return Value.bool (!(← contains (Value.ref p) (Value.ref a)))) _ _ s
  exact wpAny_bind (wpAny_contains_heap (knd := nestedKind X.prog X.w) (k := k) (show X.A.in1.units + 8 < cLine by show X.A.units + 1 + 8 < cLine; omega) ⟨den_key I.hok k dk rfl, dp⟩ hs dd (wpAny_pure ⟨.bl _, H, I.tok _, rfl, q⟩))
theorem storedH_ks {H : Hp} {xs : List (NestedKey × Addr × Value)} {k : NestedKey} {a : Addr} {v : Value} (h : ∀ x ∈ xs, Den H (kD x.1) (.ref x.2.1) ∧ x.1.depth ≤ 8) (hk : Den H (kD k) (.ref a)) (dp : k.depth ≤ 8) :
    ∀ x ∈ storedH xs k a v, Den H (kD x.1) (.ref x.2.1) ∧ x.1.depth ≤ 8 := by
  intro x hx
  unfold storedH at hx
  split at hx
  · obtain ⟨y, hy, rfl⟩ := List.mem_map.mp hx
    unfold putAt
    split
    · exact h y hy
    · exact h y hy
  · rcases List.mem_append.mp hx with hx | hx
    · exact h x hx
    · have : x = (k, a, v) := by simpa using hx
      subst this
      exact ⟨hk, dp⟩
/-- d[k] = v -/
theorem set_nd (hu : X.A.units + 9 < cLine) : PSet X (fun x y v H Q => ∃ p a xs k, x = .ref p ∧ y = .ref a ∧ H p = some (.ext (rawD X.prog X.w p xs)) ∧ ND X.prog X.w H p xs ∧ Den H (kD k) (.ref a) ∧ k.depth ≤ 8 ∧ xs.length ≤ sizeLine ∧
    ∀ u, RelV v u → Q (upd H p (.ext (rawD X.prog X.w p (storedH xs k a u))))) := by
  intro pins s σ H x y v xv iv u Q I rx ry rv h
  obtain ⟨p, a, xs, k, rfl, rfl, hp, d, dk, dp, hz, q⟩ := h
  obtain rfl : xv = Value.ref p := rx
  obtain rfl : iv = Value.ref a := ry
  obtain ⟨dd, hs⟩ := d.dict I.hok
  refine wpAny_setItem_heap (knd := nestedKind X.prog X.w) (k := k) (hsz := hz) (show X.A.in1.units + 8 < cLine by show X.A.units + 1 + 8 < cLine; omega) ⟨den_key I.hok k dk rfl, dp⟩ dd fun h' dd' hsb => ?_
  have he : ∃ q, h'.get? p = some q := let ⟨q, _, _, hq, _⟩ := dd'; ⟨q, hq⟩
  exact ⟨_, d_write I (by rw [hp]; exact True.intro) hsb he (rawD_ok dd' hs), q u rv⟩
/-- d.get(k, x) -/
theorem pe_nget2 (hu : X.A.units + 9 < cLine) (ho : PE X o td) (he : PE X e ty) (hf : PE X f tx) (m : M2 X o "get" apos e f cpos) : PE X (.Call (.Attribute o "get" apos) [e, f] [] cpos)
    (fun σ H Q => td σ H fun x H1 => (∃ p xs, x = .ref p ∧ ND X.prog X.w H1 p xs) ∧ ty σ H1 fun y H2 => tx σ H2 fun z H3 => NGet X.prog X.w H3 x y fun r => (∀ q, r = some q → ∃ v, RelV v q.2 ∧ Q v H3) ∧ (r = none → Q z H3)) := by
  refine ⟨fun pins s σ H Q I h => ?_⟩
  refine wpAny_Call_method m.base m.few m.line PySem.F.plainAttrs_dict PySem.F.slot_dict_get PySem.F.type_dict_get (thn (ho.run pins s σ H _ I h) fun u s1 ⟨x, H1, I1, rx, ⟨p0, xs0, ex, d0⟩, q1⟩ => ?_)
  subst ex
  obtain rfl : u = Value.ref p0 := rx
  obtain ⟨dd0, hs0⟩ := d0.dict I1.hok
  refine ⟨dd0.typeIs, fun b eb => ?_, ?_⟩
  · cases eb
    obtain ⟨ob, _, _, h1, h2, _⟩ := dd0
    exact ⟨ob, h1, h2.2.1⟩
  rw [m.trees]
  refine Calls.callWith_builtin rfl (Calls.evalArgs_plain (Calls.spliced_cons (thn (he.run pins s1 σ H1 _ I1 q1) fun iv s2 ⟨y, H2, I2, ry, q2⟩ =>
    Calls.spliced_cons (thn (hf.run pins s2 σ H2 _ I2 q2) fun fv s3 ⟨z, H3, I3, rz, p, a, xs, k, ex, ey, d, dk, dp, q3, q4⟩ => Calls.spliced_nil ?_))))
  subst ey
  cases ex
  obtain rfl : iv = Value.ref a := ry
  obtain ⟨dd, hs⟩ := d.dict I3.hok
  refine call_meetsIn F.slot_dict_get dd.typeIs F.entry_dict_get (F.args_dict_get_3 _ _ _) (meetsH_dict_get_default (nestedKind X.prog X.w) p0 a hs fv) ⟨show X.A.in1.units + 8 < cLine by show X.A.units + 1 + 8 < cLine; omega, k, xs, ⟨den_key I3.hok k dk rfl, dp⟩, dd, ?_⟩
  cases hq : atKey xs k with
  | none => exact ⟨z, H3, I3.tok _, rz, q4 hq⟩
  | some q =>
    obtain ⟨v, rv, qq⟩ := q3 q hq
    exact ⟨v, H3, I3.tok _, rv, qq⟩
/-- d.setdefault(k, x) -/
theorem pe_nsetd (hu : X.A.units + 9 < cLine) (ho : PE X o td) (he : PE X e ty) (hf : PE X f tx) (m : M2 X o "setdefault" apos e f cpos) : PE X (.Call (.Attribute o "setdefault" apos) [e, f] [] cpos)
    (fun σ H Q => td σ H fun x H1 => (∃ p xs, x = .ref p ∧ ND X.prog X.w H1 p xs) ∧ ty σ H1 fun y H2 => tx σ H2 fun z H3 => ∃ p a xs k, x = .ref p ∧ y = .ref a ∧ H3 p = some (.ext (rawD X.prog X.w p xs)) ∧ ND X.prog X.w H3 p xs ∧ Den H3 (kD k) (.ref a) ∧ k.depth ≤ 8 ∧ xs.length ≤ sizeLine ∧
      (∀ q, atKey xs k = some q → ∃ v, RelV v q.2 ∧ Q v H3) ∧ (atKey xs k = none → ∀ u, RelV z u → Q z (upd H3 p (.ext (rawD X.prog X.w p (storedH xs k a u)))))) := by
  refine ⟨fun pins s σ H Q I h => ?_⟩
  refine wpAny_Call_method m.base m.few m.line PySem.F.plainAttrs_dict PySem.F.slot_dict_setdefault PySem.F.type_dict_setdefault (thn (ho.run pins s σ H _ I h) fun u s1 ⟨x, H1, I1, rx, ⟨p0, xs0, ex, d0⟩, q1⟩ => ?_)
  subst ex
  obtain rfl : u = Value.ref p0 := rx
  obtain ⟨dd0, hs0⟩ := d0.dict I1.hok
  refine ⟨dd0.typeIs, fun b eb => ?_, ?_⟩
  · cases eb
    obtain ⟨ob, _, _, h1, h2, _⟩ := dd0
    exact ⟨ob, h1, h2.2.1⟩
  rw [m.trees]
  refine Calls.callWith_builtin rfl (Calls.evalArgs_plain (Calls.spliced_cons (thn (he.run pins s1 σ H1 _ I1 q1) fun iv s2 ⟨y, H2, I2, ry, q2⟩ =>
    Calls.spliced_cons (thn (hf.run pins s2 σ H2 _ I2 q2) fun fv s3 ⟨z, H3, I3, rz, p, a, xs, k, ex, ey, hp, d, dk, dp, hz, q3, q4⟩ => Calls.spliced_nil ?_))))
  subst ey
  cases ex
  obtain rfl : iv = Value.ref a := ry
  obtain ⟨dd, hs⟩ := d.dict I3.hok
  refine call_setdefault_heap (knd := nestedKind X.prog X.w) (k := k) (hsz := hz) (show X.A.in1.units + 8 < cLine by show X.A.units + 1 + 8 < cLine; omega) ⟨den_key I3.hok k dk rfl, dp⟩ hs dd (fun q hq => ?_) fun hn h' dd' hsb => ?_
  · obtain ⟨v, rv, qq⟩ := q3 q hq
    exact ⟨v, H3, I3.tok _, rv, qq⟩
  · have he : ∃ q, h'.get? p0 = some q := let ⟨q, _, _, hq, _⟩ := dd'; ⟨q, hq⟩
    exact ⟨z, _, d_write I3 (by rw [hp]; exact True.intro) hsb he (rawD_ok dd' hs), rz, q4 hn fv rz⟩
end
end AB
namespace AB
open PySem PySem.Spec PyProof.Rows L2

/-! ### lists of keys and of values -/
section
variable {κ : Type} [DecidableEq κ] {α : Type}
def kHas (ks : List κ) (k : κ) : Bool := ks.any fun j => decide (j = k)
def kLk : List κ → List α → κ → Option α
  | j :: ks, x :: xs, k => if j = k then some x else kLk ks xs k
  | _, _, _ => none
def kPutK (ks : List κ) (k : κ) : List κ := if kHas ks k = true then ks else ks ++ [k]
def kPutV (ks : List κ) (xs : List α) (k : κ) (v : α) : List α := if kHas ks k = true then (ks.zip xs).map (fun p => if p.1 = k then v else p.2) else xs ++ [v]
theorem kHas_mem {ks : List κ} {k : κ} : kHas ks k = true ↔ k ∈ ks := by
  unfold kHas
  rw [List.any_eq_true]
  constructor
  · rintro ⟨j, hj, e⟩; rw [← of_decide_eq_true e]; exact hj
  · intro h; exact ⟨k, h, decide_eq_true rfl⟩
theorem mem_kPutK {ks : List κ} {k j : κ} : j ∈ kPutK ks k ↔ j ∈ ks ∨ j = k := by
  unfold kPutK
  split
  · rename_i h
    constructor
    · exact .inl
    · rintro (h' | rfl)
      · exact h'
      · exact kHas_mem.mp h
  · simp
theorem kPutK_nodup {ks : List κ} {k : κ} (h : ks.Nodup) : (kPutK ks k).Nodup := by
  unfold kPutK
  split
  · exact h
  · rename_i hn
    refine List.nodup_append.mpr ⟨h, by simp, fun a ha b hb e => ?_⟩
    have : b = k := by simpa using hb
    subst this
    exact hn (kHas_mem.mpr (e ▸ ha))
theorem kPutK_length (ks : List κ) (k : κ) : (kPutK ks k).length ≤ ks.length + 1 := by
  unfold kPutK; split <;> simp
theorem kPut_length {ks : List κ} {xs : List α} {k : κ} {v : α} (h : ks.length = xs.length) : (kPutK ks k).length = (kPutV ks xs k v).length := by
  unfold kPutK kPutV; split <;> simp [h]
theorem kPutK_old {ks : List κ} {k : κ} (h : k ∈ ks) : kPutK ks k = ks := by unfold kPutK; rw [if_pos (kHas_mem.mpr h)]
theorem kPutK_new {ks : List κ} {k : κ} (h : k ∉ ks) : kPutK ks k = ks ++ [k] := by unfold kPutK; rw [if_neg fun z => h (kHas_mem.mp z)]
theorem kPutV_new {ks : List κ} {xs : List α} {k : κ} {v : α} (h : k ∉ ks) : kPutV ks xs k v = xs ++ [v] := by unfold kPutV; rw [if_neg fun z => h (kHas_mem.mp z)]
theorem kLk_none {ks : List κ} : ∀ {xs : List α} {k : κ}, ks.length = xs.length → (kLk ks xs k = none ↔ k ∉ ks) := by
  induction ks with
  | nil => intro xs k _; simp [kLk]
  | cons j ks ih =>
    intro xs k h
    cases xs with
    | nil => simp at h
    | cons x xs =>
      unfold kLk
      by_cases e : j = k
      · simp [e]
      · have := ih (xs := xs) (k := k) (by simpa using h)
        simp only [if_neg e, List.mem_cons, this]
        simp [Ne.symm e]
theorem kLk_append {ks : List κ} : ∀ {xs : List α} {k j : κ} {v : α}, ks.length = xs.length → k ∉ ks → kLk (ks ++ [k]) (xs ++ [v]) j = if j = k then some v else kLk ks xs j := by
  induction ks with
  | nil =>
    intro xs k j v h _
    have : xs = [] := by simpa using h.symm
    subst this
    by_cases e : k = j
    · simp [kLk, e]
    · simp [kLk, e, Ne.symm e]
  | cons i ks ih =>
    intro xs k j v h hk
    cases xs with
    | nil => simp at h
    | cons x xs =>
      simp only [List.mem_cons, not_or] at hk
      show kLk (i :: (ks ++ [k])) (x :: (xs ++ [v])) j = _
      unfold kLk
      rw [ih (by simpa using h) hk.2]
      by_cases e : i = j
      · subst e
        simp [Ne.symm hk.1]
      · simp [e]
theorem kLk_map {ks : List κ} : ∀ {xs : List α} {k j : κ} {v : α}, ks.length = xs.length → kLk ks ((ks.zip xs).map fun p => if p.1 = k then v else p.2) j = if j = k then (kLk ks xs j).map (fun _ => v) else kLk ks xs j := by
  induction ks with
  | nil => intro xs k j v h; simp [kLk]
  | cons i ks ih =>
    intro xs k j v h
    cases xs with
    | nil => simp at h
    | cons x xs =>
      show kLk (i :: ks) ((if i = k then v else x) :: ((ks.zip xs).map fun p => if p.1 = k then v else p.2)) j = _
      unfold kLk
      rw [ih (by simpa using h)]
      by_cases e : i = j
      · subst e
        by_cases e2 : i = k <;> simp [e2]
      · simp [e]
theorem kLk_put {ks : List κ} {xs : List α} {k j : κ} {v : α} (h : ks.length = xs.length) : kLk (kPutK ks k) (kPutV ks xs k v) j = if j = k then some v else kLk ks xs j := by
  unfold kPutK kPutV
  by_cases hk : kHas ks k = true
  · rw [if_pos hk, if_pos hk, kLk_map h]
    by_cases e : j = k
    · subst e
      rw [if_pos rfl, if_pos rfl]
      cases q : kLk ks xs j with
      | none => exact absurd (kHas_mem.mp hk) ((kLk_none h).mp q)
      | some x => rfl
    · rw [if_neg e, if_neg e]
  · rw [if_neg hk, if_neg hk]
    exact kLk_append h fun z => hk (kHas_mem.mpr z)
theorem kLk_mem {ks : List κ} : ∀ {xs : List α} {k : κ} {v : α}, kLk ks xs k = some v → k ∈ ks ∧ v ∈ xs := by
  induction ks with
  | nil => intro xs k v h; simp [kLk] at h
  | cons j ks ih =>
    intro xs k v h
    cases xs with
    | nil => simp [kLk] at h
    | cons x xs =>
      unfold kLk at h
      split at h
      · rename_i e
        have : x = v := by simpa using h
        subst e this
        exact ⟨List.mem_cons_self, List.mem_cons_self⟩
      · obtain ⟨h1, h2⟩ := ih h
        exact ⟨List.mem_cons_of_mem _ h1, List.mem_cons_of_mem _ h2⟩
end
theorem valV_zip {κ : Type} [DecidableEq κ] : ∀ {ks : List κ} {xs : List V} {k : κ}, valV (ks.zip xs) k = kLk ks xs k
  | [], xs, k => by simp [kLk, valV]
  | j :: ks, [], k => by simp [kLk, valV]
  | j :: ks, x :: xs, k => by
    have ih := valV_zip (ks := ks) (xs := xs) (k := k)
    show valV ((j, x) :: ks.zip xs) k = _
    unfold kLk
    by_cases e : j = k
    · rw [valV_pos (show (j, x).1 = k from e), if_pos e]
    · rw [valV_neg (show ¬ (j, x).1 = k from e), if_neg e, ih]
theorem putK_zip {κ : Type} [DecidableEq κ] {ks : List κ} {xs : List V} {k : κ} {v : V} (h : ks.length = xs.length) : putK (ks.zip xs) k v = (kPutK ks k).zip (kPutV ks xs k v) := by
  have he : ((ks.zip xs).any fun kv => decide (kv.1 = k)) = kHas ks k := by
    unfold kHas
    have : (ks.zip xs).map (·.1) = ks := List.map_fst_zip (by omega)
    conv => rhs; rw [← this, List.any_map]
    rfl
  unfold putK kPutK kPutV
  rw [he]
  split
  · rename_i hq
    clear he hq
    induction ks generalizing xs with
    | nil => simp
    | cons j ks ih =>
      cases xs with
      | nil => simp at h
      | cons x xs =>
        have := ih (xs := xs) (by simpa using h)
        simp only [List.zip_cons_cons, List.map_cons, this]
        by_cases e : j = k <;> simp [e]
  · rw [List.zip_append h]; rfl
section
variable {I : Hp} {κ : Type} [DecidableEq κ]
theorem DenL.put {d : D} {v : V} (hd : Den I d v) {ks : List κ} {k : κ} : ∀ {ds : List D} {xs : List V}, DenL I ds xs → ks.length = xs.length → DenL I (kPutV ks ds k d) (kPutV ks xs k v) := by
  intro ds xs l hl
  unfold kPutV
  split
  · rename_i hk
    clear hk
    induction ks generalizing ds xs with
    | nil => exact rfl
    | cons j ks ih =>
      cases ds with
      | nil => rw [show xs = [] from l]; exact rfl
      | cons e ds =>
        obtain ⟨y, ys, rfl, q, l⟩ := l
        refine ⟨_, _, rfl, ?_, ih l (by simpa using hl)⟩
        by_cases e2 : j = k
        · simp [e2, hd]
        · simp [e2, q]
  · exact l.snoc hd
theorem DenL.lk {ks : List κ} {k : κ} : ∀ {ds : List D} {xs : List V}, DenL I ds xs → ks.length = xs.length →
    (∀ d, kLk ks ds k = some d → ∃ v, kLk ks xs k = some v ∧ Den I d v) ∧ (kLk ks ds k = none → kLk ks xs k = none) := by
  induction ks with
  | nil => intro ds xs l h; exact ⟨fun d q => by simp [kLk] at q, fun _ => by simp [kLk]⟩
  | cons j ks ih =>
    intro ds xs l h
    cases ds with
    | nil =>
      rw [show xs = [] from l]
      exact ⟨fun d q => by simp [kLk] at q, fun _ => by simp [kLk]⟩
    | cons e ds =>
      obtain ⟨y, ys, rfl, q, l⟩ := l
      obtain ⟨i1, i2⟩ := ih l (by simpa using h)
      unfold kLk
      by_cases e2 : j = k
      · rw [if_pos e2, if_pos e2]
        exact ⟨fun d q2 => ⟨y, rfl, by cases q2; exact q⟩, fun z => by cases z⟩
      · simp only [if_neg e2]
        exact ⟨i1, i2⟩
end
/-! ### dN's entries -/
theorem atKey_lk {xs : List (NestedKey × Addr × Value)} {k : NestedKey} : ∀ {vs : List V}, Vals vs (xs.map (·.2.2)) →
    (∀ v, kLk (xs.map (·.1)) vs k = some v → ∃ q, atKey xs k = some q ∧ RelV v q.2) ∧ (kLk (xs.map (·.1)) vs k = none → atKey xs k = none) := by
  induction xs with
  | nil => intro vs r; cases r; exact ⟨fun v h => by simp [kLk] at h, fun _ => rfl⟩
  | cons x xs ih =>
    intro vs r
    cases r with
    | cons r rr =>
      obtain ⟨i1, i2⟩ := ih rr
      rw [List.map_cons]
      unfold kLk
      by_cases e : x.1 = k
      · have ea : atKey (x :: xs) k = some x.2 := by simp [atKey, e]
        rw [if_pos e, ea]
        exact ⟨fun v h => by cases h; exact ⟨_, rfl, r⟩, fun h => by cases h⟩
      · have ea : atKey (x :: xs) k = atKey xs k := by simp [atKey, e]
        rw [if_neg e, ea]
        exact ⟨i1, i2⟩
theorem atKey_has {xs : List (NestedKey × Addr × Value)} {k : NestedKey} : (atKey xs k).isSome = kHas (xs.map (·.1)) k := by
  induction xs with
  | nil => rfl
  | cons x xs ih =>
    by_cases e : x.1 = k
    · simp [atKey, kHas, e]
    · have ea : atKey (x :: xs) k = atKey xs k := by simp [atKey, e]
      rw [ea, ih]
      simp [kHas, e]
theorem storedH_map {xs : List (NestedKey × Addr × Value)} {k : NestedKey} {a : Addr} {u : Value} {vs : List V} {v : V} (r : Vals vs (xs.map (·.2.2))) (rv : RelV v u) :
    (storedH xs k a u).map (·.1) = kPutK (xs.map (·.1)) k ∧ Vals (kPutV (xs.map (·.1)) vs k v) ((storedH xs k a u).map (·.2.2)) := by
  unfold storedH kPutK kPutV
  rw [atKey_has]
  split
  · refine ⟨keys_map_putAt xs k u, ?_⟩
    rename_i h
    clear h
    induction xs generalizing vs with
    | nil => cases r; exact .nil
    | cons x xs ih =>
      cases r with
      | cons r1 rr =>
        refine .cons ?_ (ih rr)
        unfold putAt
        by_cases e : x.1 = k
        · simp [e, rv]
        · simp [e]; exact r1
  · refine ⟨by simp, ?_⟩
    rw [List.map_append]
    exact r.append (.cons rv .nil)
end AB
namespace AB
open PySem PySem.Spec PyProof.Rows L2

/-! ### owned objects: new, written, frozen -/
section
variable {P : Program} {w : World} {I H : Hp} {ρ : Env'} {σ : L2.St} {O : Own}
theorem adr_at {O : Own} {i : Nat} {p : Addr} {m : MO} (h : O[i]? = some (p, m)) : p ∈ adr O := List.mem_map.mpr ⟨(p, m), List.mem_of_getElem? h, rfl⟩
theorem adr_set {O : Own} {i : Nat} {p : Addr} {m m' : MO} (h : O[i]? = some (p, m)) : adr (O.set i (p, m')) = adr O := by
  unfold adr
  rw [List.map_set]
  apply List.ext_getElem?
  intro j
  by_cases e : i = j
  · subst e
    have hl := (List.getElem?_eq_some_iff.mp h).1
    rw [List.getElem?_set_self (by simpa using hl), List.getElem?_map, h]
    rfl
  · rw [List.getElem?_set_ne e]
theorem stt_new {p : Addr} {o : HO} {m : MO} (s : Stt P w I H ρ σ O) (hp : H p = none) (n : OwnOk P w I (upd H p o) p m) :
    Grow (adr O) (adr ((p, m) :: O)) I H I (upd H p o) ∧ Stt P w I (upd H p o) ρ σ ((p, m) :: O) := by
  have hi := s.sub.free hp
  have ne : ∀ a, a ∈ adr O → a ≠ p := fun a ha e => by
    obtain ⟨⟨u, hu⟩, _⟩ := s.own.there ha
    rw [e, hp] at hu; cases hu
  refine ⟨⟨Ex.refl I, s.sub.mut hi, fun a u _ h => by rw [upd_ne (ne_of_none h hp)]; exact h, fun _ _ _ _ h => h, fun a ha => ?_⟩, s.sub.mut hi, s.len, s.env, ⟨fun q hq => ?_, ?_⟩⟩
  · rcases List.mem_cons.mp ha with e | ha
    · exact .inr (by rw [e]; exact hp)
    · exact .inl ha
  · rcases List.mem_cons.mp hq with e | hq
    · subst e; exact ⟨hi, n⟩
    · obtain ⟨h1, h2⟩ := s.own.own q hq
      refine ⟨h1, h2.mono (Ex.refl I) fun u hu => ?_⟩
      rw [upd_ne (ne q.1 (List.mem_map.mpr ⟨q, hq, rfl⟩))]; exact hu
  · exact List.nodup_cons.mpr ⟨fun hm => ne p hm rfl, s.own.nd⟩
theorem stt_write {p : Addr} {o : HO} {m m' : MO} {i : Nat} (s : Stt P w I H ρ σ O) (hi : O[i]? = some (p, m)) (n : OwnOk P w I (upd H p o) p m') :
    Grow (adr O) (adr (O.set i (p, m'))) I H I (upd H p o) ∧ Stt P w I (upd H p o) ρ σ (O.set i (p, m')) := by
  have hmem := adr_at hi
  have hI := (s.own.there hmem).2
  have ha := adr_set (m' := m') hi
  refine ⟨⟨Ex.refl I, s.sub.mut hI, fun a u na h => ?_, fun _ _ _ _ h => h, fun a h => .inl (by rw [ha] at h; exact h)⟩, s.sub.mut hI, s.len, s.env, ⟨fun q hq => ?_, by rw [ha]; exact s.own.nd⟩⟩
  · have hne : a ≠ p := fun e => na (by rw [e]; exact hmem)
    rw [upd_ne hne]; exact h
  · obtain ⟨j, hj⟩ := List.mem_iff_getElem?.mp hq
    by_cases e : i = j
    · subst e
      rw [List.getElem?_set_self (List.getElem?_eq_some_iff.mp hi).1] at hj
      cases hj
      exact ⟨hI, n⟩
    · rw [List.getElem?_set_ne e] at hj
      obtain ⟨h1, h2⟩ := s.own.own q (List.mem_of_getElem? hj)
      refine ⟨h1, h2.mono (Ex.refl I) fun u hu => ?_⟩
      have hne : q.1 ≠ p := fun eq => by
        have a1 : (adr O)[i]? = some p := by unfold adr; rw [List.getElem?_map, hi]; rfl
        have a2 : (adr O)[j]? = some p := by unfold adr; rw [List.getElem?_map, hj, ← eq]; rfl
        exact e ((List.getElem?_inj (List.getElem?_eq_some_iff.mp a1).1 s.own.nd).mp (a1.trans a2.symm))
      rw [upd_ne hne]; exact hu
def mD : MO → D
  | .lst ds => .lst ds
  | .dK ks ds => .dK ks ds
  | .ins C fs ds => .ins C fs ds
  | _ => .non
def mFz : MO → Bool
  | .lst _ => true
  | .dK _ _ => true
  | .ins _ _ _ => true
  | _ => false
theorem stt_freeze {p : Addr} {m : MO} {i : Nat} (s : Stt P w I H ρ σ O) (hi : O[i]? = some (p, m)) (hm : mFz m = true) :
    ∃ J, Grow (adr O) (adr (O.eraseIdx i)) I H J H ∧ Stt P w J H ρ σ (O.eraseIdx i) ∧ Den J (mD m) (.ref p) := by
  obtain ⟨hI, ok⟩ := s.own.own (p, m) (List.mem_of_getElem? hi)
  obtain ⟨o, ho⟩ := ok.there
  have up : Ex I (upd I p o) := Ex.new hI
  have sub : Ex (upd I p o) H := fun a u h => by
    by_cases e : a = p
    · subst e; rw [upd_same] at h; cases h; exact ho
    · rw [upd_ne e] at h; exact s.sub a u h
  have hl := (List.getElem?_eq_some_iff.mp hi).1
  have hsub : ∀ q ∈ O.eraseIdx i, q ∈ O := fun q hq => (List.eraseIdx_sublist O i).subset hq
  have hout : ∀ q ∈ O.eraseIdx i, q.1 ≠ p := fun q hq e => by
    obtain ⟨j, hj⟩ := List.mem_iff_getElem?.mp hq
    rw [List.getElem?_eraseIdx] at hj
    have a1 : (adr O)[i]? = some p := by unfold adr; rw [List.getElem?_map, hi]; rfl
    split at hj
    · rename_i hji
      have a2 : (adr O)[j]? = some p := by unfold adr; rw [List.getElem?_map, hj, ← e]; rfl
      have := (List.getElem?_inj (List.getElem?_eq_some_iff.mp a1).1 s.own.nd).mp (a1.trans a2.symm)
      omega
    · rename_i hji
      have a2 : (adr O)[j + 1]? = some p := by unfold adr; rw [List.getElem?_map, hj, ← e]; rfl
      have := (List.getElem?_inj (List.getElem?_eq_some_iff.mp a1).1 s.own.nd).mp (a1.trans a2.symm)
      omega
  refine ⟨upd I p o, ⟨up, sub, fun _ _ _ h => h, fun a u na h h2 => ?_, fun a ha => .inl ?_⟩, ⟨sub, s.len, fun j d e => ?_, ⟨fun q hq => ?_, ?_⟩⟩, ?_⟩
  · have hne : a ≠ p := fun e => na (by rw [e]; exact adr_at hi)
    rw [upd_ne hne]; exact h2
  · obtain ⟨q, hq, e⟩ := List.mem_map.mp ha
    exact List.mem_map.mpr ⟨q, hsub q hq, e⟩
  · obtain ⟨v, h1, h2⟩ := s.env j d e
    exact ⟨v, h1, Den.mono up _ h2⟩
  · obtain ⟨h1, h2⟩ := s.own.own q (hsub q hq)
    exact ⟨by rw [upd_ne (hout q hq)]; exact h1, h2.mono up fun _ h => h⟩
  · have := s.own.nd
    unfold adr at this ⊢
    exact (((List.eraseIdx_sublist O i).map _)).nodup this
  · cases m with
    | lst ds =>
      obtain ⟨xs, h1, h2⟩ := ok
      rw [ho] at h1; cases h1
      exact ⟨p, xs, rfl, upd_same, DenL.mono up _ h2⟩
    | dK ks ds =>
      obtain ⟨xs, h1, h2, h3⟩ := ok
      rw [ho] at h1; cases h1
      exact ⟨p, xs, rfl, upd_same, h2, DenL.mono up _ h3⟩
    | ins C fs ds =>
      obtain ⟨dx, xs, h1, h2, h3⟩ := ok
      rw [ho] at h1; cases h1
      exact ⟨p, dx, xs, rfl, upd_same, h2, DenL.mono up _ h3⟩
    | dN _ _ => cases hm
    | dNz _ _ _ _ => cases hm
    | any _ => cases hm
/-- a new immutable object -/
theorem stt_imm {p : Addr} {o : HO} (s : Stt P w I H ρ σ O) (hp : H p = none) : Grow (adr O) (adr O) I H (upd I p o) (upd H p o) ∧ Stt P w (upd I p o) (upd H p o) ρ σ O := by
  have hi := s.sub.free hp
  have up : Ex I (upd I p o) := Ex.new hi
  have ne : ∀ a, a ∈ adr O → a ≠ p := fun a ha e => by
    obtain ⟨⟨u, hu⟩, _⟩ := s.own.there ha
    rw [e, hp] at hu; cases hu
  have g : Grow (adr O) (adr O) I H (upd I p o) (upd H p o) := ⟨up, s.sub.both, fun a u _ h => by rw [upd_ne (ne_of_none h hp)]; exact h, fun a u _ h h2 => by rw [upd_ne (ne_of_none h hp)]; exact h2, fun _ h => .inl h⟩
  refine ⟨g, s.step g ⟨fun q hq => ?_, s.own.nd⟩⟩
  obtain ⟨h1, h2⟩ := s.own.own q hq
  have hne := ne q.1 (List.mem_map.mpr ⟨q, hq, rfl⟩)
  exact ⟨by rw [upd_ne hne]; exact h1, h2.mono up fun u hu => by rw [upd_ne hne]; exact hu⟩
end

section
variable {X : Cx} {e a b : Expr} {es : List Expr} {st : Stmt} {sts : List Stmt} {ρ : Env'} {O : Own} {pos : Pos}
theorem de_fz {i : Nat} {post : D → Own → Prop} (h : DE X e ρ O fun d O' => ∃ p m, d = .raw (.ref p) ∧ O'[i]? = some (p, m) ∧ mFz m = true ∧ post (mD m) (O'.eraseIdx i)) : DE X e ρ O post :=
  de_of h fun σ H Q ⟨I, s, q⟩ => ⟨I, s, fun v J H' d O' g s' n z => by
    obtain ⟨p, m, rfl, hi, hm, k⟩ := z
    obtain ⟨J2, g2, s2, n2⟩ := stt_freeze s' hi hm
    rw [show v = V.ref p from n]
    exact q (.ref p) J2 H' (mD m) _ (g.trans g2) s2 n2 k⟩
/-- the object of slot j, owned at i, is frozen -/
theorem dss_fz (i j : Nat) {q : Addr} {m : MO} {p : Post} (hρ : ρ[j]? = some (some (.raw (.ref q)))) (hi : O[i]? = some (q, m)) (hm : mFz m = true) (h : DSs X sts (ρ.set j (some (mD m))) (O.eraseIdx i) p) : DSs X sts ρ O p :=
  dss_of h fun Dn σ H ⟨I, s, h1, h2, h3, h4⟩ => by
    obtain ⟨J2, g2, s2, n2⟩ := stt_freeze s hi hm
    obtain ⟨v, hv, hd⟩ := s.env j _ hρ
    have e : σ.set j (some (.ref q)) = σ := by
      apply List.ext_getElem?
      intro k
      by_cases ek : j = k
      · subst ek
        rw [List.getElem?_set_self (List.getElem?_eq_some_iff.mp hv).1, hv, show v = V.ref q from hd]
      · rw [List.getElem?_set_ne ek]
    have s3 := s2.set j n2
    rw [e] at s3
    exact rdS.mk s3 g2 h1 h2 h3 h4
/-- owned objects are forgotten -/
theorem dss_sub {O' : Own} {p : Post} (hs : O'.Sublist O) (h : DSs X sts ρ O' p) : DSs X sts ρ O p :=
  dss_of h fun Dn σ H ⟨I, s, h1, h2, h3, h4⟩ => by
    have hn : (adr O').Nodup := (hs.map _).nodup s.own.nd
    have g : Grow (adr O) (adr O') I H I H := ⟨Ex.refl I, s.sub, fun _ _ _ h => h, fun _ _ _ _ h => h, fun a ha => .inl ((hs.map _).subset ha)⟩
    exact rdS.mk (s.step g (s.own.sub (fun q hq => hs.subset hq) hn)) g h1 h2 h3 h4
theorem dss_perm {O' : Own} {p : Post} (hs : O.Perm O') (h : DSs X sts ρ O' p) : DSs X sts ρ O p :=
  dss_of h fun Dn σ H ⟨I, s, h1, h2, h3, h4⟩ => by
    have g : Grow (adr O) (adr O') I H I H := ⟨Ex.refl I, s.sub, fun _ _ _ h => h, fun _ _ _ _ h => h, fun a ha => .inl ((hs.map _).mem_iff.mpr ha)⟩
    exact rdS.mk (s.step g (s.own.perm hs)) g h1 h2 h3 h4
/-- the environment forgets -/
theorem dss_env {ρ' : Env'} {p : Post} (hl : ρ'.length = ρ.length) (hs : ∀ (i : Nat) (d : D), ρ'[i]? = some (some d) → ρ[i]? = some (some d)) (h : DSs X sts ρ' O p) : DSs X sts ρ O p :=
  dss_of h fun Dn σ H ⟨I, s, h1, h2, h3, h4⟩ => rdS.mk (p := p) ⟨s.sub, hl.trans s.len, fun i d e => s.env i d (hs i d e), s.own⟩ (Grow.refl s.sub) h1 h2 h3 h4

/-! ### displays -/
theorem de_tup {x1 : Nat} {post : D → Own → Prop} (h : DA X es ρ O fun ds O' => ds.length ≤ sizeLine ∧ post (.tup ds) O') : DE X (.Tuple es x1 pos) ρ O post :=
  de_of (pe_tup any_a) fun σ H Q ⟨I, s, q⟩ => ⟨ρ, O, _, h, I, s, fun vs J H1 ds O1 g s1 n k => ⟨by rw [← n.length]; exact k.1, fun p hp => by
    obtain ⟨g2, s2⟩ := stt_imm (o := .tup vs) s1 hp
    exact q (.ref p) _ _ (.tup ds) O1 (g.trans g2) s2 ⟨p, vs, rfl, upd_same, DenL.mono (Ex.new (s1.sub.free hp)) _ n⟩ k.2⟩⟩
theorem de_lst {post : D → Own → Prop} (h : DA X es ρ O fun ds O' => ds.length ≤ sizeLine ∧ post (.lst ds) O') : DE X (.List es pos) ρ O post :=
  de_of (pe_lst any_a) fun σ H Q ⟨I, s, q⟩ => ⟨ρ, O, _, h, I, s, fun vs J H1 ds O1 g s1 n k => ⟨by rw [← n.length]; exact k.1, fun p hp => by
    obtain ⟨g2, s2⟩ := stt_imm (o := .lst vs) s1 hp
    exact q (.ref p) _ _ (.lst ds) O1 (g.trans g2) s2 ⟨p, vs, rfl, upd_same, DenL.mono (Ex.new (s1.sub.free hp)) _ n⟩ k.2⟩⟩
theorem de_lstO {post : D → Own → Prop} (h : DA X es ρ O fun ds O' => ds.length ≤ sizeLine ∧ ∀ p, post (.raw (.ref p)) ((p, .lst ds) :: O')) : DE X (.List es pos) ρ O post :=
  de_of (pe_lst any_a) fun σ H Q ⟨I, s, q⟩ => ⟨ρ, O, _, h, I, s, fun vs J H1 ds O1 g s1 n k => ⟨by rw [← n.length]; exact k.1, fun p hp => by
    obtain ⟨g2, s2⟩ := stt_new (o := .lst vs) (m := .lst ds) s1 hp ⟨vs, upd_same, n⟩
    exact q (.ref p) _ _ (.raw (.ref p)) _ (g.trans g2) s2 rfl (k.2 p)⟩⟩
theorem de_dnewK {post : D → Own → Prop} (h : ∀ p, post (.raw (.ref p)) ((p, .dK [] []) :: O)) : DE X (.Dict [] [] pos) ρ O post :=
  de_of pe_dnewK fun σ H Q ⟨I, s, q⟩ => fun p hp => by
    obtain ⟨g2, s2⟩ := stt_new (o := .dK []) (m := .dK [] []) s hp ⟨[], upd_same, rfl, rfl⟩
    exact q (.ref p) _ _ (.raw (.ref p)) _ g2 s2 rfl (h p)
theorem de_dnewKi {post : D → Own → Prop} (h : post (.dK [] []) O) : DE X (.Dict [] [] pos) ρ O post :=
  de_fz (i := 0) (de_dnewK fun p => ⟨p, _, rfl, rfl, rfl, h⟩)
theorem de_dnewN {post : D → Own → Prop} (h : ∀ p, post (.raw (.ref p)) ((p, .dN [] []) :: O)) : DE X (.Dict [] [] pos) ρ O post :=
  de_of pe_dnewN fun σ H Q ⟨I, s, q⟩ => fun p hp => by
    obtain ⟨g2, s2⟩ := stt_new (o := .ext (rawD X.prog X.w p [])) (m := .dN [] []) s hp (show DNok X.prog X.w I _ p id [] [] from ⟨⟨[], [], upd_same, rfl, .nil, rfl, fun x hx => (nomatch hx)⟩, List.nodup_nil, fun x hx => (nomatch hx), fun x hx => (nomatch hx), Nat.zero_le _⟩)
    exact q (.ref p) _ _ (.raw (.ref p)) _ g2 s2 rfl (h p)
/-! a display of a dict -/
def DP (X : Cx) (pos : Pos) : List (Option Expr) → List Expr → Env' → Own → (List D → List D → Own → Prop) → Prop
  | some k :: ks, v :: vs, ρ, O, post => DE X k ρ O fun dk O1 => DE X v ρ O1 fun dv O2 => DP X pos ks vs ρ O2 fun dks dvs O3 => post (dk :: dks) (dv :: dvs) O3
  | [], [], _, O, post => post [] [] O
  | _, _, _, _, _ => False
def aPs (X : Cx) : List (Option Expr) → List Expr → List (TE × TE)
  | some k :: ks, v :: vs => (aE X k, aE X v) :: aPs X ks vs
  | _, _ => []
theorem pps_any (X : Cx) (pos : Pos) : ∀ (ks : List (Option Expr)) (vs : List Expr), ks.all (·.isSome) = true → ks.length = vs.length → PPs X pos ks vs (aPs X ks vs)
  | [], [], _, _ => pps_nil
  | some k :: ks, v :: vs, h, hl => pps_cons any_e any_e (pps_any X pos ks vs (by simpa using h) (by simpa using hl))
  | none :: ks, _, h, _ => by simp at h
  | [], v :: vs, _, hl => by simp at hl
  | some k :: ks, [], _, hl => by simp at hl
theorem dp_run {pos : Pos} : ∀ (ks : List (Option Expr)) (vs : List Expr) {ρ : Env'} {O : Own} {post : List D → List D → Own → Prop} {I H : Hp} {σ : L2.St} {Q : List (V × V) → Hp → Prop},
    DP X pos ks vs ρ O post → Stt X.prog X.w I H ρ σ O →
    (∀ ps J H' dks dvs O', Grow (adr O) (adr O') I H J H' → Stt X.prog X.w J H' ρ σ O' → DenL J dks (ps.map (·.1)) → DenL J dvs (ps.map (·.2)) → post dks dvs O' → Q ps H') → tPairs (aPs X ks vs) σ H Q
  | [], [], ρ, O, post, I, H, σ, Q, h, s, q => q [] I H [] [] O (Grow.refl s.sub) s rfl rfl h
  | some k :: ks, v :: vs, ρ, O, post, I, H, σ, Q, h, s, q => by
    refine ⟨ρ, O, _, h, I, s, fun x J1 H1 d1 O1 g1 s1 n1 h1 => ⟨ρ, O1, _, h1, J1, s1, fun y J2 H2 d2 O2 g2 s2 n2 h2 => ?_⟩⟩
    refine dp_run ks vs h2 s2 fun ps J3 H3 dks dvs O3 g3 s3 n3 n4 k3 => ?_
    exact q ((x, y) :: ps) J3 H3 (d1 :: dks) (d2 :: dvs) O3 ((g1.trans g2).trans g3) s3 (DenL.cons (Den.mono (g2.up.trans g3.up) _ n1) n3) (DenL.cons (Den.mono g3.up _ n2) n4) k3
  | none :: ks, _, _, _, _, _, _, _, _, h, _, _ => h.elim
  | [], v :: vs, _, _, _, _, _, _, _, h, _, _ => h.elim
  | some k :: ks, [], _, _, _, _, _, _, _, h, _, _ => h.elim
def keyD : Key → D
  | .inl i => .int i
  | .inr x => .str x
theorem den_keyD {I : Hp} {k : Key} {v : V} (h : Den I (keyD k) v) : v = kV k := by
  cases k with
  | inl i => exact h
  | inr x => exact h
theorem denL_keyD {I : Hp} : ∀ {ks : List Key} {vs : List V}, DenL I (ks.map keyD) vs → vs = ks.map kV
  | [], _, h => h
  | k :: ks, _, ⟨y, ys, r, n, l⟩ => by rw [r, den_keyD n, denL_keyD l]; rfl
theorem merge_nodup : ∀ (kvs acc : List (Key × V)), ((acc ++ kvs).map (·.1)).Nodup → mergeK acc kvs = acc ++ kvs
  | [], acc, _ => by simp [mergeK]
  | p :: r, acc, h => by
    have hn : valV acc p.1 = none := by
      cases q : valV acc p.1 with
      | none => rfl
      | some v =>
        obtain ⟨z, hz, e⟩ := Option.map_eq_some_iff.mp (show (acc.find? fun kv => decide (kv.1 = p.1)).map (·.2) = some v from q)
        have h1 := List.find?_some hz
        have h2 := List.mem_of_find?_eq_some hz
        rw [List.map_append, List.nodup_append] at h
        exact absurd (of_decide_eq_true h1) (h.2.2 z.1 (List.mem_map.mpr ⟨z, h2, rfl⟩) p.1 (by simp))
    show mergeK (putK acc p.1 p.2) r = _
    rw [putK_new p.2 hn, merge_nodup r _ (by simpa using h)]
    simp
theorem de_disp {keys : List (Option Expr)} {values : List Expr} {post : D → Own → Prop} (hall : keys.all (·.isSome) = true) (hl : keys.length = values.length) (h0 : keys ≠ []) (h15 : keys.length ≤ 15)
    (h : DP X pos keys values ρ O fun dks dvs O' => ∃ ks : List Key, dks = ks.map keyD ∧ ks.Nodup ∧ ks.length = dvs.length ∧ dvs.length ≤ 15 ∧ ∀ p, post (.raw (.ref p)) ((p, .dK ks dvs) :: O')) : DE X (.Dict keys values pos) ρ O post :=
  de_of (pe_disp (pps_any X pos keys values hall hl) hall hl h0 h15) fun σ H Q ⟨I, s, q⟩ => fun p hp => by
    obtain ⟨g1, s1⟩ := stt_new (o := .dK []) (m := .dK [] []) s hp ⟨[], upd_same, rfl, rfl⟩
    have s1' : Stt X.prog X.w I (upd H p (.dK [])) ρ σ O := ⟨s1.sub, s1.len, s1.env, s1.own.sub (fun q hq => List.mem_cons_of_mem _ hq) s.own.nd⟩
    refine dp_run keys values h s1' fun ps J H2 dks dvs O2 g2 s2 n1 n2 k => ?_
    obtain ⟨ks, e1, hnd, hlen, h15', k⟩ := k
    have hpI : I p = none := s.sub.free hp
    have hpO : p ∉ adr O := fun hm => by
      obtain ⟨⟨u, hu⟩, _⟩ := s.own.there hm
      rw [hp] at hu; cases hu
    have hH2 : H2 p = some (.dK []) := g2.kp p _ hpO upd_same
    have hJp : J p = none := g2.nw p _ hpO upd_same hpI
    have hpO2 : p ∉ adr O2 := fun hm => by
      rcases g2.fr p hm with z | z
      · exact hpO z
      · rw [upd_same] at z; cases z
    subst e1
    have ek := denL_keyD n1
    have epl : ps.length = dvs.length := by have := n2.length; simpa using this.symm
    have eps : ps = (ks.zip (ps.map (·.2))).map (fun kv => (kV kv.1, kv.2)) := by
      have : ∀ (ks : List Key) (ps : List (V × V)), ps.map (·.1) = ks.map kV → ps = (ks.zip (ps.map (·.2))).map (fun kv => (kV kv.1, kv.2)) := by
        intro ks
        induction ks with
        | nil => intro ps h; simpa using h
        | cons k ks ih =>
          intro ps h
          cases ps with
          | nil => simp at h
          | cons z ps =>
            simp only [List.map_cons, List.cons.injEq] at h
            simp only [List.map_cons, List.zip_cons_cons, ← h.1]
            rw [← ih ps h.2]
      exact this ks ps ek
    refine ⟨hH2, ks.zip (ps.map (·.2)), eps, by simp; omega, ?_⟩
    have hks : (ks.zip (ps.map (·.2))).map (·.1) = ks := List.map_fst_zip (by simp; omega)
    rw [merge_nodup _ [] (by rw [List.nil_append, hks]; exact hnd), List.nil_append]
    -- the new dict, owned
    have own3 : Owns X.prog X.w J (upd H2 p (.dK (ks.zip (ps.map (·.2))))) ((p, MO.dK ks dvs) :: O2) := by
      refine ⟨fun q hq => ?_, List.nodup_cons.mpr ⟨hpO2, s2.own.nd⟩⟩
      rcases List.mem_cons.mp hq with e | hq
      · subst e
        exact ⟨hJp, ps.map (·.2), upd_same, by simp; omega, n2⟩
      · obtain ⟨h1, h2⟩ := s2.own.own q hq
        refine ⟨h1, h2.mono (Ex.refl J) fun u hu => ?_⟩
        have hne : q.1 ≠ p := fun e => hpO2 (by rw [← e]; exact List.mem_map.mpr ⟨q, hq, rfl⟩)
        rw [upd_ne hne]; exact hu
    have s3 : Stt X.prog X.w J (upd H2 p (.dK (ks.zip (ps.map (·.2))))) ρ σ ((p, MO.dK ks dvs) :: O2) := ⟨s2.sub.mut hJp, s2.len, s2.env, own3⟩
    have gT : Grow (adr O) (adr ((p, MO.dK ks dvs) :: O2)) I H J (upd H2 p (.dK (ks.zip (ps.map (·.2))))) := by
      refine ⟨g2.up, s3.sub, fun a u na hu => ?_, fun a u na hu hi => ?_, fun a ha => ?_⟩
      · have hne : a ≠ p := ne_of_none hu hp
        rw [upd_ne hne]
        exact g2.kp a u na (by rw [upd_ne hne]; exact hu)
      · have hne : a ≠ p := ne_of_none hu hp
        exact g2.nw a u na (by rw [upd_ne hne]; exact hu) hi
      · rcases List.mem_cons.mp ha with e | ha
        · exact .inr (by rw [e]; exact hp)
        · rcases g2.fr a ha with z | z
          · exact .inl z
          · by_cases e : a = p
            · exact .inr (by rw [e]; exact hp)
            · rw [upd_ne e] at z; exact .inr z
    exact q (.ref p) J _ (.raw (.ref p)) _ gT s3 rfl (k p)
end
end AB
namespace AB
open PySem PySem.Spec PyProof.Rows L2

/-- a sequence: data, or an owned list -/
def SqD (d : D) (O : Own) (ds : List D) : Prop := d = .lst ds ∨ d = .tup ds ∨ ∃ p, d = .raw (.ref p) ∧ ∃ i : Nat, O[i]? = some (p, .lst ds)
section
variable {P : Program} {w : World} {I H : Hp} {ρ : Env'} {σ : L2.St} {O : Own}
theorem sqd_at {d : D} {v : V} {ds : List D} (e : Ex I H) (o : Owns P w I H O) (n : Den I d v) (h : SqD d O ds) : ∃ a xs, v = .ref a ∧ (H a = some (.lst xs) ∨ H a = some (.tup xs)) ∧ DenL I ds xs := by
  rcases h with rfl | rfl | ⟨p, rfl, i, hi⟩
  · obtain ⟨a, xs, rfl, h, l⟩ := n
    exact ⟨a, xs, rfl, .inl (e a _ h), l⟩
  · obtain ⟨a, xs, rfl, h, l⟩ := n
    exact ⟨a, xs, rfl, .inr (e a _ h), l⟩
  · obtain ⟨_, xs, h, l⟩ := o.own _ (List.mem_of_getElem? hi)
    exact ⟨p, xs, n, .inl h, l⟩
theorem sqd_own {i : Nat} {p : Addr} {ds : List D} (h : O[i]? = some (p, .lst ds)) : SqD (.raw (.ref p)) O ds := .inr (.inr ⟨p, rfl, i, h⟩)
theorem sqd_l {ds : List D} : SqD (.lst ds) O ds := .inl rfl
theorem sqd_t {ds : List D} : SqD (.tup ds) O ds := .inr (.inl rfl)
theorem sq_or {K : PySem.W.Frag} {a : Addr} {xs : List V} (h : H a = some (.lst xs) ∨ H a = some (.tup xs)) : SqL K H a xs ∨ SqT K H a xs := h.imp SqL.of SqT.of
/-- an instance: data, or owned -/
def InD (d : D) (O : Own) (C : Addr) (fs : List Str) (ds : List D) : Prop := d = .ins C fs ds ∨ ∃ p, d = .raw (.ref p) ∧ ∃ i : Nat, O[i]? = some (p, .ins C fs ds)
theorem ind_at {d : D} {v : V} {C : Addr} {fs : List Str} {ds : List D} (e : Ex I H) (o : Owns P w I H O) (n : Den I d v) (h : InD d O C fs ds) : ∃ a dx xs, v = .ref a ∧ H a = some (.ins C dx (fs.zip xs)) ∧ fs.length = xs.length ∧ DenL I ds xs := by
  rcases h with rfl | ⟨p, rfl, i, hi⟩
  · obtain ⟨a, dx, xs, rfl, h, hl, l⟩ := n
    exact ⟨a, dx, xs, rfl, e a _ h, hl, l⟩
  · obtain ⟨_, dx, xs, h, hl, l⟩ := o.own _ (List.mem_of_getElem? hi)
    exact ⟨p, dx, xs, n, h, hl, l⟩
/-- a dict with int and text keys: data, or owned -/
def DkD (d : D) (O : Own) (ks : List Key) (ds : List D) : Prop := d = .dK ks ds ∨ ∃ p, d = .raw (.ref p) ∧ ∃ i : Nat, O[i]? = some (p, .dK ks ds)
theorem dkd_at {d : D} {v : V} {ks : List Key} {ds : List D} (e : Ex I H) (o : Owns P w I H O) (n : Den I d v) (h : DkD d O ks ds) : ∃ a xs, v = .ref a ∧ H a = some (.dK (ks.zip xs)) ∧ ks.length = xs.length ∧ DenL I ds xs := by
  rcases h with rfl | ⟨p, rfl, i, hi⟩
  · obtain ⟨a, xs, rfl, h, hl, l⟩ := n
    exact ⟨a, xs, rfl, e a _ h, hl, l⟩
  · obtain ⟨_, xs, h, hl, l⟩ := o.own _ (List.mem_of_getElem? hi)
    exact ⟨p, xs, n, h, hl, l⟩
theorem dkd_own {i : Nat} {p : Addr} {ks : List Key} {ds : List D} (h : O[i]? = some (p, .dK ks ds)) : DkD (.raw (.ref p)) O ks ds := .inr ⟨p, rfl, i, h⟩
/-- a dict with nested keys, owned, perhaps locked -/
def DnD (d : D) (O : Own) (ks : List NestedKey) (ds : List D) : Prop := ∃ p, d = .raw (.ref p) ∧ ∃ i : Nat, O[i]? = some (p, .dN ks ds) ∨ ∃ od u, O[i]? = some (p, .dNz od u ks ds)
theorem dnd_at {d : D} {v : V} {ks : List NestedKey} {ds : List D} (e : Ex I H) (o : Owns P w I H O) (n : Den I d v) (h : DnD d O ks ds) :
    ∃ p xs vs, v = .ref p ∧ ND P w H p xs ∧ xs.map (·.1) = ks ∧ Vals vs (xs.map (·.2.2)) ∧ DenL I ds vs := by
  obtain ⟨p, rfl, i, hi⟩ := h
  rcases hi with hi | ⟨od, u, hi⟩
  · obtain ⟨_, ⟨⟨xs, vs, h1, h2, h3, h4, h5⟩, nd, dp, tp, sz⟩⟩ := o.own _ (List.mem_of_getElem? hi)
    exact ⟨p, xs, vs, n, ⟨.inl h1, by rw [h2]; exact nd, fun x hx => ⟨Den.mono e _ (h5 x hx), dp _ (h2 ▸ List.mem_map.mpr ⟨x, hx, rfl⟩)⟩⟩, h2, h3, h4⟩
  · obtain ⟨_, h0, ⟨⟨xs, vs, h1, h2, h3, h4, h5⟩, nd, dp, tp, sz⟩⟩ := o.own _ (List.mem_of_getElem? hi)
    have h1 : u = .ext (rawD P w p xs) := Option.some.inj h1
    subst h1
    exact ⟨p, xs, vs, n, ⟨.inr ⟨od, h0⟩, by rw [h2]; exact nd, fun x hx => ⟨Den.mono e _ (h5 x hx), dp _ (h2 ▸ List.mem_map.mpr ⟨x, hx, rfl⟩)⟩⟩, h2, h3, h4⟩
theorem den_tupkey {k : NestedKey} {v : V} (h : Den I (kD k) v) (ht : ∃ l, k = .tup l) : ∃ a, v = .ref a := by
  obtain ⟨l, rfl⟩ := ht
  rw [kD] at h
  obtain ⟨a, xs, rfl, _⟩ := h
  exact ⟨a, rfl⟩
end

section
variable {X : Cx} {e a b o i f : Expr} {es : List Expr} {st : Stmt} {sts : List Stmt} {ρ : Env'} {O : Own} {pos apos cpos : Pos}
/-! ### look-ups -/
theorem de_ix {post : D → Own → Prop} (hs : PlainIx b) (h : DE X a ρ O fun d1 O1 => DE X b ρ O1 fun d2 O2 => ∃ ds j d, SqD d1 O2 ds ∧ d2 = .int j ∧ atI ds j = some d ∧ post d O2) : DE X (.Subscript a b pos) ρ O post :=
  de_of (pe_ix (ix_list.or ix_tup) any_e any_e hs) fun σ H Q ⟨I, s, q⟩ => ⟨ρ, O, _, h, I, s, fun v1 J1 H1 d1 O1 g1 s1 n1 h1 => ⟨ρ, O1, _, h1, J1, s1, fun v2 J2 H2 d2 O2 g2 s2 n2 k => by
    obtain ⟨ds, j, d, hq, rfl, ha, k⟩ := k
    obtain ⟨p, xs, rfl, hp, l⟩ := sqd_at s2.sub s2.own (Den.mono g2.up _ n1) hq
    obtain ⟨z, hz, hd⟩ : ∃ z, atI xs j = some z ∧ Den J2 d z := by
      unfold atI at ha ⊢
      rw [← l.length]
      cases hx : ixN ds.length j with
      | none => rw [hx] at ha; cases ha
      | some m =>
        rw [hx] at ha
        obtain ⟨z, h1, h2⟩ := l.get ha
        exact ⟨z, h1, h2⟩
    have fin : Q z H2 := q z J2 H2 d O2 (g1.trans g2) s2 hd k
    rcases hp with hp | hp
    · exact .inl ⟨p, xs, j, z, rfl, n2, SqL.of hp, hz, fin⟩
    · exact .inr ⟨p, xs, j, z, rfl, n2, SqT.of hp, hz, fin⟩⟩⟩
theorem de_ixK {post : D → Own → Prop} (hu : X.A.units + 1 < cLine) (hs : NoSl b) (h : DE X a ρ O fun d1 O1 => DE X b ρ O1 fun d2 O2 => ∃ ks ds k d, DkD d1 O2 ks ds ∧ d2 = keyD k ∧ kLk ks ds k = some d ∧ post d O2) : DE X (.Subscript a b pos) ρ O post :=
  de_of (pe_dget hu any_e any_e hs) fun σ H Q ⟨I, s, q⟩ => ⟨ρ, O, _, h, I, s, fun v1 J1 H1 d1 O1 g1 s1 n1 h1 => ⟨ρ, O1, _, h1, J1, s1, fun v2 J2 H2 d2 O2 g2 s2 n2 k => by
    obtain ⟨ks, ds, kk, d, hq, rfl, ha, k⟩ := k
    obtain ⟨p, xs, rfl, hp, hl, l⟩ := dkd_at s2.sub s2.own (Den.mono g2.up _ n1) hq
    obtain ⟨z, hz, hd⟩ := (l.lk hl).1 d ha
    refine ⟨p, z, rfl, ?_, q z J2 H2 d O2 (g1.trans g2) s2 hd k⟩
    rw [den_keyD n2, ← hz, ← valV_zip]
    exact DGet.k hp⟩⟩
theorem de_ixN {post : D → Own → Prop} (hu : X.A.units + 9 < cLine) (hs : NoSl b) (h : DE X a ρ O fun d1 O1 => DE X b ρ O1 fun d2 O2 => ∃ ks ds k d, DnD d1 O2 ks ds ∧ d2 = kD k ∧ (∃ l, k = .tup l) ∧ k.depth ≤ 8 ∧ kLk ks ds k = some d ∧ post d O2) : DE X (.Subscript a b pos) ρ O post :=
  de_of (pe_nget hu any_e any_e hs) fun σ H Q ⟨I, s, q⟩ => ⟨ρ, O, _, h, I, s, fun v1 J1 H1 d1 O1 g1 s1 n1 h1 => ⟨ρ, O1, _, h1, J1, s1, fun v2 J2 H2 d2 O2 g2 s2 n2 k => by
    obtain ⟨ks, ds, kk, d, hq, rfl, ht, hdp, ha, k⟩ := k
    obtain ⟨p, xs, vs, rfl, nd, rfl, rv, l⟩ := dnd_at s2.sub s2.own (Den.mono g2.up _ n1) hq
    obtain ⟨av, rfl⟩ := den_tupkey n2 ht
    obtain ⟨z, hz, hd⟩ := (l.lk (by have := rv.length; simpa using this.symm)).1 d ha
    obtain ⟨qq, h1, h2⟩ := (atKey_lk rv).1 z hz
    exact ⟨p, av, xs, kk, rfl, rfl, nd, Den.mono s2.sub _ n2, hdp, qq, h1, z, h2, q z J2 H2 d O2 (g1.trans g2) s2 hd k⟩⟩⟩
theorem lookup_zip : ∀ {fs : List Str} {xs : List V} {f : Str}, (fs.zip xs).lookup f = kLk fs xs f
  | [], xs, f => by simp [kLk]
  | g :: fs, [], f => by simp [kLk]
  | g :: fs, x :: xs, f => by
    have ih := lookup_zip (fs := fs) (xs := xs) (f := f)
    show List.lookup f ((g, x) :: fs.zip xs) = _
    rw [List.lookup_cons, ih, show kLk (g :: fs) (x :: xs) f = if g = f then some x else kLk fs xs f from rfl]
    by_cases h : g = f
    · subst h; simp
    · have h2 : (f == g) = false := by simpa using fun e => h (Eq.symm e)
      simp [h, h2]
theorem zip_map_out {g : Str} {v : V} : ∀ {fs : List Str} {xs : List V}, g ∉ fs → fs.length = xs.length → (fs.zip xs).map (fun p => if p.1 = g then v else p.2) = xs
  | [], xs, _, h => by
    have : xs = [] := by simpa using h.symm
    subst this; rfl
  | j :: fs, [], _, h => by simp at h
  | j :: fs, y :: ys, hg, h => by
    simp only [List.mem_cons, not_or] at hg
    simp only [List.zip_cons_cons, List.map_cons]
    rw [if_neg (Ne.symm hg.1), zip_map_out hg.2 (by simpa using h)]
theorem putF_zip : ∀ {fs : List Str} {xs : List V} {f : Str} {v : V}, fs.Nodup → fs.length = xs.length → putF f v (fs.zip xs) = (kPutK fs f).zip (kPutV fs xs f v)
  | [], xs, f, v, _, h => by
    have : xs = [] := by simpa using h.symm
    subst this; rfl
  | g :: fs, [], f, v, _, h => by simp at h
  | g :: fs, x :: xs, f, v, hn, h => by
    have ih := putF_zip (fs := fs) (xs := xs) (f := f) (v := v) (List.nodup_cons.mp hn).2 (by simpa using h)
    show putF f v ((g, x) :: fs.zip xs) = _
    unfold putF
    by_cases e : g = f
    · subst e
      rw [if_pos rfl]
      have hh : kHas (g :: fs) g = true := kHas_mem.mpr List.mem_cons_self
      have hg : g ∉ fs := (List.nodup_cons.mp hn).1
      unfold kPutK kPutV
      rw [if_pos hh, if_pos hh]
      have e2 : (fs.zip xs).map (fun p => if p.1 = g then v else p.2) = xs := by
        have h' : fs.length = xs.length := by simpa using h
        exact zip_map_out hg h'
      simp [e2]
    · rw [if_neg e, ih]
      unfold kPutK kPutV
      have hh : kHas (g :: fs) f = kHas fs f := by simp [kHas, e]
      rw [hh]
      split
      · simp [e]
      · simp
theorem de_fld {f : Str} {post : D → Own → Prop} (hb : attributeBase e f X.env (eval e X.env) = eval e X.env) (h : DE X e ρ O fun d O' => ∃ C fs ds dv, InD d O' C fs ds ∧ Cls X.K C ∧ NoAttr X.K C f ∧ kLk fs ds f = some dv ∧ post dv O') : DE X (.Attribute e f pos) ρ O post :=
  de_of (pe_fld any_e hb) fun σ H Q ⟨I, s, q⟩ => ⟨ρ, O, _, h, I, s, fun v J H1 d O1 g s1 n k => by
    obtain ⟨C, fs, ds, dv, hi, hc, hn, hl, k⟩ := k
    obtain ⟨p, dx, xs, rfl, hp, hlen, l⟩ := ind_at s1.sub s1.own n hi
    obtain ⟨z, hz, hd⟩ := (l.lk hlen).1 dv hl
    exact ⟨p, C, dx, fs.zip xs, z, rfl, hp, hc, hn, by rw [lookup_zip]; exact hz, q z J H1 dv O1 g s1 hd k⟩⟩
/-- o.f = e, o owned at j -/
theorem ds_fld {f : Str} {value : Expr} {pos' : Pos} {p : Post} (hs : swapsWith value (some (.Attribute o f pos')) pos.line X.env = pure false)
    (h : DE X value ρ O fun dv O1 => DE X o ρ O1 fun d O2 => ∃ q j C fs ds, d = .raw (.ref q) ∧ O2[j]? = some (q, .ins C fs ds) ∧ Cls X.K C ∧ NoAttr X.K C f ∧ fs.Nodup ∧ fs.length < 1000 ∧ p.nx ρ (O2.set j (q, .ins C (kPutK fs f) (kPutV fs ds f dv)))) : DS X (.Assign [.Attribute o f pos'] value pos) ρ O p :=
  ds_of (ps_fld any_e any_e hs) fun Dn σ H ⟨I, s, k1, k2, k3, k4⟩ => ⟨ρ, O, _, h, I, s, fun v1 J1 H1 d1 O1 g1 s1 n1 h1 => ⟨ρ, O1, _, h1, J1, s1, fun v2 J2 H2 d2 O2 g2 s2 n2 k => by
    obtain ⟨q, j, C, fs, ds, rfl, hj, hc, hn, hnd, hl, k⟩ := k
    obtain ⟨_, dx, xs, hp, hlen, l⟩ := s2.own.own _ (List.mem_of_getElem? hj)
    refine ⟨q, C, dx, fs.zip xs, n2, hp, hc, hn, by simp; omega, ?_⟩
    rw [putF_zip hnd hlen]
    have hd1 : Den J2 d1 v1 := Den.mono g2.up _ n1
    obtain ⟨g3, s3⟩ := stt_write (o := .ins C dx ((kPutK fs f).zip (kPutV fs xs f v1))) (m' := .ins C (kPutK fs f) (kPutV fs ds f d1)) s2 hj ⟨dx, kPutV fs xs f v1, upd_same, kPut_length hlen, l.put hd1 hlen⟩
    exact k1 σ J2 _ ρ _ ((g1.trans g2).trans g3) s3 k⟩⟩
/-! ### stores -/
def StD (P : Program) (w : World) (t : TSet) (d1 d2 dv : D) (O : Own) (post : Own → Prop) : Prop := ∀ I H v1 v2 v, Ex I H → Owns P w I H O → Den I d1 v1 → Den I d2 v2 → Den I dv v → ∀ Q : Hp → Prop,
  (∀ J H' O', Grow (adr O) (adr O') I H J H' → Owns P w J H' O' → post O' → Q H') → t v1 v2 v H Q
theorem dg_sub {t : TSet} {dv : D} {post : Env' → Own → Prop} (hs : PSet X t) (ha : ∀ v, assign (.Subscript o i pos) X.env v = (do
      let ov ← holding [v] (eval o X.env)
      let iv ← holding [v, ov] (eval i X.env)
      standAt pos
      holding [v, ov, iv] (setItem ov iv v)
      release [v, ov, iv] [])) (h : DE X o ρ O fun d1 O1 => DE X i ρ O1 fun d2 O2 => StD X.prog X.w t d1 d2 dv O2 fun O3 => post ρ O3) : DG X [] (.Subscript o i pos) dv ρ O post :=
  dg_of (pg_sub any_e any_e hs ha) fun v σ H Q ⟨I, s, n, q⟩ => ⟨ρ, O, _, h, I, s, fun v1 J1 H1 d1 O1 g1 s1 n1 h1 => ⟨ρ, O1, _, h1, J1, s1, fun v2 J2 H2 d2 O2 g2 s2 n2 k =>
    k J2 H2 v1 v2 v s2.sub s2.own (Den.mono g2.up _ n1) n2 (Den.mono (g1.up.trans g2.up) _ n) _ fun J3 H3 O3 g3 o3 p => q σ J3 H3 ρ O3 ((g1.trans g2).trans g3) (s2.step g3 o3) ⟨rfl, fun _ _ => rfl⟩ p⟩⟩
theorem owns_write {P : Program} {w : World} {I H : Hp} {p : Addr} {o : HO} {m m' : MO} {i : Nat} (e : Ex I H) (s : Owns P w I H O) (hi : O[i]? = some (p, m)) (n : OwnOk P w I (upd H p o) p m') :
    Grow (adr O) (adr (O.set i (p, m'))) I H I (upd H p o) ∧ Owns P w I (upd H p o) (O.set i (p, m')) := by
  obtain ⟨g, s'⟩ := stt_write (ρ := []) (σ := []) (m' := m') ⟨e, rfl, fun i d q => by simp at q, s⟩ hi n
  exact ⟨g, s'.own⟩
theorem std_list {P : Program} {w : World} {q : Addr} {j : Nat} {ds : List D} {k : Int} {m : Nat} {dv : D} {post : Own → Prop} (hj : O[j]? = some (q, .lst ds)) (hk : ixN ds.length k = some m) (h : post (O.set j (q, .lst (ds.set m dv)))) : StD P w rSetL (.raw (.ref q)) (.int k) dv O post := by
  intro I H v1 v2 v e ow n1 n2 n Q c
  obtain ⟨_, xs, hp, l⟩ := ow.own _ (List.mem_of_getElem? hj)
  obtain ⟨g, o'⟩ := owns_write (o := .lst (xs.set m v)) (m' := .lst (ds.set m dv)) e ow hj ⟨_, upd_same, l.set n m⟩
  exact ⟨q, xs, k, m, n1, n2, hp, by rw [← l.length]; exact hk, c I _ _ g o' h⟩
/-- d[k] = v of int and text keys -/
theorem set_dk (hu : X.A.units + 1 < cLine) : PSet X (fun x y v H Q => ∃ a H', x = .ref a ∧ DPut H a y v H' ∧ Q H') := by
  intro pins s σ H x y v xv iv u Q I rx ry rv h
  obtain ⟨a, H', rfl, g, q⟩ := h
  obtain rfl : xv = Value.ref a := rx
  exact d_setItem hu I g ry rv fun s4 I4 => ⟨H', I4, q⟩
theorem std_dk {P : Program} {w : World} {q : Addr} {j : Nat} {ks : List Key} {ds : List D} {k : Key} {dk dv : D} {post : Own → Prop} (hk : dk = keyD k) (hj : O[j]? = some (q, .dK ks ds)) (hz : ks.length < sizeLine) (h : post (O.set j (q, .dK (kPutK ks k) (kPutV ks ds k dv)))) :
    StD P w (fun x y v H Q => ∃ a H', x = .ref a ∧ DPut H a y v H' ∧ Q H') (.raw (.ref q)) dk dv O post := by
  intro I H v1 v2 v e ow n1 n2 n Q c
  obtain ⟨_, xs, hp, hl, l⟩ := ow.own _ (List.mem_of_getElem? hj)
  subst hk
  have hl2 : ks.length = ds.length := by rw [hl, ← l.length]
  obtain ⟨g, o'⟩ := owns_write (o := .dK ((kPutK ks k).zip (kPutV ks xs k v))) (m' := .dK (kPutK ks k) (kPutV ks ds k dv)) e ow hj ⟨_, upd_same, kPut_length hl, l.put n hl⟩
  refine ⟨q, _, n1, ?_, c I _ _ g o' h⟩
  rw [den_keyD n2, ← putK_zip hl]
  exact DPut.k hp (by simp; omega)
abbrev tSetN (X : Cx) : TSet := fun x y v H Q => ∃ p a xs k, x = .ref p ∧ y = .ref a ∧ H p = some (.ext (rawD X.prog X.w p xs)) ∧ ND X.prog X.w H p xs ∧ Den H (kD k) (.ref a) ∧ k.depth ≤ 8 ∧ xs.length ≤ sizeLine ∧
    ∀ u, RelV v u → Q (upd H p (.ext (rawD X.prog X.w p (storedH xs k a u))))
theorem dn_put {P : Program} {w : World} {I H H' : Hp} {p a : Addr} {xs : List (NestedKey × Addr × Value)} {vs : List V} {ks : List NestedKey} {ds : List D} {k : NestedKey} {dv : D} {v : V} {u : Value} (h2 : xs.map (·.1) = ks) (h3 : Vals vs (xs.map (·.2.2))) (h4 : DenL I ds vs)
    (h5 : ∀ x ∈ xs, Den I (kD x.1) (.ref x.2.1)) (nd : ks.Nodup) (dp : ∀ k ∈ ks, k.depth ≤ 8) (tp : ∀ k ∈ ks, ∃ l, k = .tup l) (sz : ks.length < sizeLine) (hk : Den I (kD k) (.ref a)) (hdp : k.depth ≤ 8) (ht : ∃ l, k = .tup l) (hv : Den I dv v) (rv : RelV v u)
    (hH : H' p = some (.ext (rawD P w p (storedH xs k a u)))) : DNok P w I H' p id (kPutK ks k) (kPutV ks ds k dv) := by
  obtain ⟨e1, e2⟩ := storedH_map (k := k) (a := a) h3 rv
  have hl : ks.length = ds.length := by rw [h4.length, h3.length, ← h2]; simp
  refine ⟨⟨_, _, hH, by rw [e1, h2], by rw [← h2] at *; exact e2, h4.put hv (by rw [h3.length, ← h2]; simp), fun x hx => ?_⟩, kPutK_nodup nd, fun j hj => ?_, fun j hj => ?_, ?_⟩
  · unfold storedH at hx
    split at hx
    · obtain ⟨y, hy, rfl⟩ := List.mem_map.mp hx
      unfold putAt
      split
      · exact h5 y hy
      · exact h5 y hy
    · rcases List.mem_append.mp hx with hx | hx
      · exact h5 x hx
      · have : x = (k, a, u) := by simpa using hx
        subst this
        exact hk
  · rcases mem_kPutK.mp hj with h | rfl
    · exact dp j h
    · exact hdp
  · rcases mem_kPutK.mp hj with h | rfl
    · exact tp j h
    · exact ht
  · have := kPutK_length ks k; omega
theorem std_dn {q : Addr} {j : Nat} {ks : List NestedKey} {ds : List D} {k : NestedKey} {dk dv : D} {post : Own → Prop} (hk : dk = kD k) (ht : ∃ l, k = .tup l) (hdp : k.depth ≤ 8) (hj : O[j]? = some (q, .dN ks ds)) (hz : ks.length < sizeLine) (h : post (O.set j (q, .dN (kPutK ks k) (kPutV ks ds k dv)))) :
    StD X.prog X.w (tSetN X) (.raw (.ref q)) dk dv O post := by
  intro I H v1 v2 v e ow n1 n2 n Q c
  subst hk
  obtain ⟨_, hN⟩ := ow.own _ (List.mem_of_getElem? hj)
  obtain ⟨⟨xs, vs, h1, h2, h3, h4, h5⟩, nd, dp, tp, sz⟩ := (show DNok X.prog X.w I H q id ks ds from hN)
  obtain ⟨a, rfl⟩ := den_tupkey n2 ht
  have hxl : xs.length = ks.length := by rw [← h2]; simp
  refine ⟨q, a, xs, k, n1, rfl, h1, ⟨.inl h1, by rw [h2]; exact nd, fun x hx => ⟨Den.mono e _ (h5 x hx), dp _ (h2 ▸ List.mem_map.mpr ⟨x, hx, rfl⟩)⟩⟩, Den.mono e _ n2, hdp, by omega, fun u ru => ?_⟩
  obtain ⟨g, o'⟩ := owns_write (o := .ext (rawD X.prog X.w q (storedH xs k a u))) (m' := .dN (kPutK ks k) (kPutV ks ds k dv)) e ow hj (show DNok X.prog X.w I _ q id _ _ from dn_put (H := H) h2 h3 h4 h5 nd dp tp hz n2 hdp ht n ru upd_same)
  exact c I _ _ g o' h
end
end AB
namespace AB
open PySem PySem.Spec PyProof.Rows L2

section
variable {X : Cx} {e a b c o i f : Expr} {es rest : List Expr} {st : Stmt} {sts : List Stmt} {ρ : Env'} {O : Own} {pos apos cpos tpos : Pos}
/-! ### xs[i] += e -/
theorem get_list : PGet X (fun x y H Q => ∃ p xs k v, x = .ref p ∧ y = .int k ∧ H p = some (.lst xs) ∧ 0 ≤ k ∧ atI xs k = some v ∧ Q v H) := by
  intro pins s σ H x y v u Q I rx ry h
  obtain ⟨p, xs, k, z, rfl, rfl, hp, h0, he, q⟩ := h
  obtain rfl : v = Value.ref p := rx
  obtain ⟨t, rfl⟩ := ry
  obtain ⟨its, r, pl, hz⟩ := I.list (SqL.of hp)
  obtain ⟨j, h1, h2, h3, h4, h5⟩ := atI_get he
  obtain ⟨w, ew, rw'⟩ := r.get h2
  have hl := r.length
  have hn := line63
  have hj : k.toNat = j := by
    rw [seqIndex_of h0 h5] at h1
    exact Option.some.inj h1
  exact wpAny_getItem_list pl.isList h0 (by omega) (by rw [hj]; simpa using ew) ⟨z, H, I, rw', q⟩
theorem ds_augL {p : Post} (ha : ∀ ov iv new, augStore i ov iv new = (do holding [new, ov, iv] (setItem ov iv new); release [new, ov, iv] []; pure .next))
    (h : DE X o ρ O fun d1 O1 => DE X i ρ O1 fun d2 O2 => ∃ (q : Addr) (j : Nat) (ds : List D) (k : Int) (m : Nat) (u : Int), d1 = .raw (.ref q) ∧ d2 = .int k ∧ 0 ≤ k ∧ O2[j]? = some (q, .lst ds) ∧ ixN ds.length k = some m ∧ ds[m]? = some (.int u) ∧
      DE X e ρ O2 fun d3 O3 => ∃ (j3 : Nat) (z : Int), O3[j3]? = some (q, .lst ds) ∧ d3 = .int z ∧ p.nx ρ (O3.set j3 (q, .lst (ds.set m (.int (u + z)))))) : DS X (.AugAssign (.Subscript o i tpos) .Add e pos) ρ O p :=
  ds_of (ps_augS any_e any_e get_list any_e ip_add set_list ha) fun Dn σ H ⟨I, s, k1, k2, k3, k4⟩ => ⟨ρ, O, _, h, I, s, fun v1 J1 H1 d1 O1 g1 s1 n1 h1 => ⟨ρ, O1, _, h1, J1, s1, fun v2 J2 H2 d2 O2 g2 s2 n2 k => by
    obtain ⟨q, j, ds, kk, m, u, rfl, rfl, h0, hj, hm, hu, k⟩ := k
    obtain ⟨_, xs, hp, l⟩ := s2.own.own _ (List.mem_of_getElem? hj)
    obtain ⟨z, hz, hd⟩ := l.get hu
    refine ⟨q, xs, kk, z, n1, n2, hp, h0, ?_, ρ, O2, _, k, J2, s2, fun v3 J3 H3 d3 O3 g3 s3 n3 k => ?_⟩
    · unfold atI; rw [← l.length, hm]; exact hz
    · obtain ⟨j3, zz, hj3, rfl, k⟩ := k
      refine ⟨u, zz, hd, n3, ?_⟩
      obtain ⟨_, xs3, hp3, l3⟩ := s3.own.own _ (List.mem_of_getElem? hj3)
      refine ⟨q, xs3, kk, m, n1, n2, hp3, by rw [← l3.length]; exact hm, ?_⟩
      obtain ⟨g4, s4⟩ := stt_write (o := .lst (xs3.set m (.int (u + zz)))) (m' := .lst (ds.set m (.int (u + zz)))) s3 hj3 ⟨_, upd_same, l3.set (by rfl) m⟩
      exact k1 σ _ _ ρ _ (((g1.trans g2).trans g3).trans g4) s4 k⟩⟩
/-! ### methods -/
theorem de_append {post : D → Own → Prop} (hbase : attributeBase o "append" X.env (eval o X.env) = eval o X.env)
    (hfew : ((backTo cpos (starEach (e :: es) X.env)).all (fun x => !x.1) && (backToKw cpos (keywordEach [] X.env)).all (fun x => x.1.isSome)
      && decide ((e :: es).length + ([] : List Keyword).length + (if ([] : List Keyword).isEmpty then 0 else 1) < 30)) = true)
    (hline : (apos.endLine == cpos.line) = true) (hs : starEach (e :: es) X.env = (false, eval e X.env) :: starEach es X.env) (hplain : (backTo cpos (starEach es X.env)).any (·.1) = false)
    (h : DE X o ρ O fun d1 O1 => (∃ ds, SqD d1 O1 ds ∧ ∃ p, d1 = .raw (.ref p)) ∧ DA X (e :: es) ρ O1 fun ds O2 => ∃ q j xs d, d1 = .raw (.ref q) ∧ ds = [d] ∧ O2[j]? = some (q, .lst xs) ∧ xs.length < sizeLine ∧ post .non (O2.set j (q, .lst (xs ++ [d])))) :
    DE X (.Call (.Attribute o "append" apos) (e :: es) [] cpos) ρ O post :=
  de_of (pe_bm PySem.F.plainAttrs_list PySem.F.slot_list_append PySem.F.type_list_append mt_append any_e any_a hbase hfew hline hs hplain) fun σ H Q ⟨I, s, q⟩ => ⟨ρ, O, _, h, I, s, fun v1 J1 H1 d1 O1 g1 s1 n1 h1 => by
    obtain ⟨⟨ds0, hq0, p0, rfl⟩, h1⟩ := h1
    obtain ⟨a0, xs0, ev, hp0, l0⟩ := sqd_at s1.sub s1.own n1 hq0
    rcases hq0 with e0 | e0 | ⟨p1, e0, i1, hi1⟩
    · cases e0
    · cases e0
    · cases e0
      obtain ⟨_, xs1, hp1, l1⟩ := s1.own.own _ (List.mem_of_getElem? hi1)
      refine ⟨?_, ρ, O1, _, h1, J1, s1, fun vs J2 H2 ds O2 g2 s2 n2 k => ?_⟩
      · rw [show v1 = V.ref p0 from n1]
        exact .inl ⟨rfl, _, SqL.of hp1⟩
      · obtain ⟨q', j, xs, d, e1, rfl, hj, hz, k⟩ := k
        cases e1
        obtain ⟨v, rfl, n⟩ := den1 n2
        obtain ⟨_, ys, hp, l⟩ := s2.own.own _ (List.mem_of_getElem? hj)
        refine ⟨p0, ys, v, n1, rfl, hp, by rw [← l.length]; exact hz, ?_⟩
        obtain ⟨g3, s3⟩ := stt_write (o := .lst (ys ++ [v])) (m' := .lst (xs ++ [d])) s2 hj ⟨_, upd_same, l.snoc n⟩
        exact q .non _ _ .non _ ((g1.trans g2).trans g3) s3 rfl k⟩
theorem flat_ints : ∀ ns : List Int, (ns.map V.int).all flatV = true
  | [] => rfl
  | n :: ns => by rw [List.map_cons, List.all_cons, flat_ints ns]; rfl
/-- xs.index(k), a list of ints -/
theorem de_index {post : D → Own → Prop} (hbase : attributeBase o "index" X.env (eval o X.env) = eval o X.env)
    (hfew : ((backTo cpos (starEach (e :: es) X.env)).all (fun x => !x.1) && (backToKw cpos (keywordEach [] X.env)).all (fun x => x.1.isSome)
      && decide ((e :: es).length + ([] : List Keyword).length + (if ([] : List Keyword).isEmpty then 0 else 1) < 30)) = true)
    (hline : (apos.endLine == cpos.line) = true) (hs : starEach (e :: es) X.env = (false, eval e X.env) :: starEach es X.env) (hplain : (backTo cpos (starEach es X.env)).any (·.1) = false)
    (h : DE X o ρ O fun d1 O1 => (∃ ds, d1 = .lst ds) ∧ DA X (e :: es) ρ O1 fun ds O2 => ∃ (ns : List Int) (k : Int) (j : Nat), d1 = .lst (ns.map D.int) ∧ ds = [.int k] ∧ ns[j]? = some k ∧ (∀ m, m < j → ns[m]? ≠ some k) ∧ post (.int (j : Int)) O2) :
    DE X (.Call (.Attribute o "index" apos) (e :: es) [] cpos) ρ O post :=
  de_of (pe_bm PySem.F.plainAttrs_list PySem.F.slot_list_index PySem.F.type_list_index mt_index any_e any_a hbase hfew hline hs hplain) fun σ H Q ⟨I, s, q⟩ => ⟨ρ, O, _, h, I, s, fun v1 J1 H1 d1 O1 g1 s1 n1 h1 => by
    obtain ⟨⟨ds0, rfl⟩, h1⟩ := h1
    obtain ⟨a0, xs0, rfl, hp0, l0⟩ := n1
    refine ⟨.inl ⟨rfl, _, SqL.of (s1.sub _ _ hp0)⟩, ρ, O1, _, h1, J1, s1, fun vs J2 H2 ds O2 g2 s2 n2 k => ?_⟩
    obtain ⟨ns, kk, j, e1, rfl, hj, hno, k⟩ := k
    cases e1
    obtain ⟨v, rfl, n⟩ := den1 n2
    have ex := DenL.ints l0
    subst ex
    rw [show v = V.int kk from n]
    refine ⟨a0, ns.map V.int, .int kk, j, .int kk, rfl, rfl, SqL.of (s2.sub _ _ (g2.up _ _ hp0)), rfl, flat_ints ns, by rw [List.getElem?_map, hj]; rfl, by simp [eqV], fun m z hm hz => ?_, q _ J2 H2 (.int (j : Int)) O2 (g1.trans g2) s2 rfl k⟩
    rw [List.getElem?_map] at hz
    cases hq : ns[m]? with
    | none => rw [hq] at hz; cases hz
    | some y =>
      rw [hq] at hz
      have e2 : V.int y = z := Option.some.inj hz
      have hne : y ≠ kk := fun e => hno m hm (by rw [hq, e])
      rw [← e2]
      simpa [eqV] using hne⟩
/-- d.get(k, x) of an owned dict with nested keys -/
theorem de_get2N {post : D → Own → Prop} (hu : X.A.units + 9 < cLine) (m : M2 X o "get" apos e f cpos)
    (h : DE X o ρ O fun d1 O1 => (∃ ks ds, DnD d1 O1 ks ds) ∧ DE X e ρ O1 fun d2 O2 => DE X f ρ O2 fun d3 O3 => ∃ ks ds k, DnD d1 O3 ks ds ∧ d2 = kD k ∧ (∃ l, k = .tup l) ∧ k.depth ≤ 8 ∧ post ((kLk ks ds k).getD d3) O3) : DE X (.Call (.Attribute o "get" apos) [e, f] [] cpos) ρ O post :=
  de_of (pe_nget2 hu any_e any_e any_e m) fun σ H Q ⟨I, s, q⟩ => ⟨ρ, O, _, h, I, s, fun v1 J1 H1 d1 O1 g1 s1 n1 h1 => by
    obtain ⟨⟨ks0, ds0, hq0⟩, h1⟩ := h1
    obtain ⟨p0, xs0, vs0, rfl, nd0, _⟩ := dnd_at s1.sub s1.own n1 hq0
    refine ⟨⟨p0, xs0, rfl, nd0⟩, ρ, O1, _, h1, J1, s1, fun v2 J2 H2 d2 O2 g2 s2 n2 h2 => ⟨ρ, O2, _, h2, J2, s2, fun v3 J3 H3 d3 O3 g3 s3 n3 k => ?_⟩⟩
    obtain ⟨ks, ds, kk, hq, rfl, ht, hdp, k⟩ := k
    obtain ⟨p, xs, vs, ev, nd, rfl, rv, l⟩ := dnd_at s3.sub s3.own (Den.mono (g2.up.trans g3.up) _ n1) hq
    cases ev
    obtain ⟨av, rfl⟩ := den_tupkey n2 ht
    have hlk := l.lk (k := kk) (show (xs.map (·.1)).length = vs.length by have := rv.length; simpa using this.symm)
    refine ⟨p0, av, xs, kk, rfl, rfl, nd, Den.mono s3.sub _ (Den.mono g3.up _ n2), hdp, fun qq hqq => ?_, fun hnone => ?_⟩
    · cases hk : kLk (xs.map (·.1)) ds kk with
      | none =>
        have := (atKey_lk rv).2 (hlk.2 hk)
        rw [hqq] at this; cases this
      | some d =>
        obtain ⟨z, hz, hd⟩ := hlk.1 d hk
        obtain ⟨q2, h1, h2⟩ := (atKey_lk rv).1 z hz
        rw [hqq] at h1; cases h1
        rw [hk] at k
        exact ⟨z, h2, q z J3 H3 d O3 ((g1.trans g2).trans g3) s3 hd k⟩
    · cases hk : kLk (xs.map (·.1)) ds kk with
      | none =>
        rw [hk] at k
        exact q v3 J3 H3 d3 O3 ((g1.trans g2).trans g3) s3 n3 k
      | some d =>
        obtain ⟨z, hz, hd⟩ := hlk.1 d hk
        obtain ⟨q2, h1, h2⟩ := (atKey_lk rv).1 z hz
        rw [hnone] at h1; cases h1⟩
/-- d.setdefault(k, x), d owned at j -/
theorem de_setdN {post : D → Own → Prop} (hu : X.A.units + 9 < cLine) (m : M2 X o "setdefault" apos e f cpos)
    (h : DE X o ρ O fun d1 O1 => (∃ ks ds, DnD d1 O1 ks ds) ∧ DE X e ρ O1 fun d2 O2 => DE X f ρ O2 fun d3 O3 => ∃ (q : Addr) (j : Nat) (ks : List NestedKey) (ds : List D) (k : NestedKey), d1 = .raw (.ref q) ∧ O3[j]? = some (q, .dN ks ds) ∧ ks.length < sizeLine ∧ d2 = kD k ∧ (∃ l, k = .tup l) ∧ k.depth ≤ 8 ∧
      (∀ d, kLk ks ds k = some d → post d O3) ∧ (kLk ks ds k = none → post d3 (O3.set j (q, .dN (ks ++ [k]) (ds ++ [d3]))))) : DE X (.Call (.Attribute o "setdefault" apos) [e, f] [] cpos) ρ O post :=
  de_of (pe_nsetd hu any_e any_e any_e m) fun σ H Q ⟨I, s, q⟩ => ⟨ρ, O, _, h, I, s, fun v1 J1 H1 d1 O1 g1 s1 n1 h1 => by
    obtain ⟨⟨ks0, ds0, hq0⟩, h1⟩ := h1
    obtain ⟨p0, xs0, vs0, rfl, nd0, _⟩ := dnd_at s1.sub s1.own n1 hq0
    refine ⟨⟨p0, xs0, rfl, nd0⟩, ρ, O1, _, h1, J1, s1, fun v2 J2 H2 d2 O2 g2 s2 n2 h2 => ⟨ρ, O2, _, h2, J2, s2, fun v3 J3 H3 d3 O3 g3 s3 n3 k => ?_⟩⟩
    obtain ⟨q', j, ks, ds, kk, rfl, hj, hz, rfl, ht, hdp, ka, kb⟩ := k
    cases n1
    obtain ⟨_, hN⟩ := s3.own.own _ (List.mem_of_getElem? hj)
    obtain ⟨⟨xs, vs, e1, e2, e3, e4, e5⟩, nd, dp, tp, sz⟩ := (show DNok X.prog X.w J3 H3 p0 id ks ds from hN)
    obtain ⟨av, rfl⟩ := den_tupkey n2 ht
    have hxl : xs.length = ks.length := by rw [← e2]; simp
    have hlen : ks.length = vs.length := by rw [e3.length, ← e2]; simp
    have hlk := e4.lk (k := kk) hlen
    have n2' : Den J3 (kD kk) (.ref av) := Den.mono g3.up _ n2
    refine ⟨p0, av, xs, kk, rfl, rfl, e1, ⟨.inl e1, by rw [e2]; exact nd, fun x hx => ⟨Den.mono s3.sub _ (e5 x hx), dp _ (e2 ▸ List.mem_map.mpr ⟨x, hx, rfl⟩)⟩⟩, Den.mono s3.sub _ n2', hdp, by omega, fun qq hqq => ?_, fun hnone u ru => ?_⟩
    · cases hk : kLk ks ds kk with
      | none =>
        have hn := hlk.2 hk
        rw [← e2] at hn
        have := (atKey_lk e3).2 hn
        rw [hqq] at this; cases this
      | some d =>
        obtain ⟨z, hz, hd⟩ := hlk.1 d hk
        rw [← e2] at hz
        obtain ⟨q2, h1, h2⟩ := (atKey_lk e3).1 z hz
        rw [hqq] at h1; cases h1
        exact ⟨z, h2, q z J3 H3 d O3 ((g1.trans g2).trans g3) s3 hd (ka d hk)⟩
    · cases hk : kLk ks ds kk with
      | some d =>
        obtain ⟨z, hz, hd⟩ := hlk.1 d hk
        rw [← e2] at hz
        obtain ⟨q2, h1, h2⟩ := (atKey_lk e3).1 z hz
        rw [hnone] at h1; cases h1
      | none =>
        have hmem : kk ∉ ks := (kLk_none (by rw [e4.length]; exact hlen)).mp hk
        have hput := dn_put (P := X.prog) (w := X.w) (H := H3) (H' := upd H3 p0 (.ext (rawD X.prog X.w p0 (storedH xs kk av u)))) e2 e3 e4 e5 nd dp tp hz n2' hdp ht n3 ru upd_same
        rw [kPutK_new hmem, kPutV_new hmem] at hput
        obtain ⟨g4, s4⟩ := stt_write (o := .ext (rawD X.prog X.w p0 (storedH xs kk av u))) (m' := .dN (ks ++ [kk]) (ds ++ [d3])) s3 hj hput
        exact q v3 J3 _ d3 _ (((g1.trans g2).trans g3).trans g4) s4 n3 (kb hk)⟩
/-! ### + of lists, of tuples; * -/
theorem rd_cat {P : Program} {w : World} {d1 d2 : D} {xs ys : List D} {post : D → Own → Prop} (h1 : d1 = .lst xs ∨ ∃ p, d1 = .raw (.ref p) ∧ ∃ i : Nat, O[i]? = some (p, .lst xs)) (h2 : d2 = .lst ys ∨ ∃ p, d2 = .raw (.ref p) ∧ ∃ i : Nat, O[i]? = some (p, .lst ys)) (hz : xs.length + ys.length ≤ sizeLine) (k : post (.lst (xs ++ ys)) O) : RD P w rCat d1 d2 O post := by
  intro I H v1 v2 e ow n1 n2 Q c
  have get : ∀ {d : D} {v : V} {zs : List D}, Den I d v → (d = .lst zs ∨ ∃ p, d = .raw (.ref p) ∧ ∃ i : Nat, O[i]? = some (p, .lst zs)) → ∃ a us, v = .ref a ∧ H a = some (.lst us) ∧ DenL I zs us := by
    intro d v zs n h
    rcases h with rfl | ⟨p, rfl, i, hi⟩
    · obtain ⟨a, us, rfl, h, l⟩ := n
      exact ⟨a, us, rfl, e a _ h, l⟩
    · obtain ⟨_, us, h, l⟩ := ow.own _ (List.mem_of_getElem? hi)
      exact ⟨p, us, n, h, l⟩
  obtain ⟨a1, us, rfl, ha, l1⟩ := get n1 h1
  obtain ⟨a2, ws, rfl, hb, l2⟩ := get n2 h2
  refine ⟨a1, a2, us, ws, rfl, rfl, ha, hb, by rw [← l1.length, ← l2.length]; exact hz, fun p hp => ?_⟩
  obtain ⟨g, s⟩ := stt_imm (P := P) (w := w) (ρ := []) (σ := []) (o := .lst (us ++ ws)) ⟨e, rfl, fun i d q => by simp at q, ow⟩ hp
  exact c (.ref p) _ _ (.lst (xs ++ ys)) O g s.own ⟨p, _, rfl, upd_same, DenL.mono (Ex.new (e.free hp)) _ (l1.append l2)⟩ k
theorem rd_catT {P : Program} {w : World} {K : PySem.W.Frag} {xs ys : List D} {post : D → Own → Prop} (hz : xs.length + ys.length ≤ sizeLine) (k : post (.tup (xs ++ ys)) O) : RD P w (rCatA K) (.tup xs) (.tup ys) O post := by
  intro I H v1 v2 e ow n1 n2 Q c
  obtain ⟨a1, us, rfl, ha, l1⟩ := n1
  obtain ⟨a2, ws, rfl, hb, l2⟩ := n2
  have x1 := l1.length
  have x2 := l2.length
  refine ⟨a1, a2, us, ws, rfl, rfl, SqT.of (e _ _ ha), SqT.of (e _ _ hb), by omega, fun h => ?_, fun h h' => ?_, fun h h' p hp => ?_⟩
  · have : xs = [] := List.eq_nil_of_length_eq_zero (by rw [x1, h]; rfl)
    subst this
    exact c (.ref a2) I H (.tup ys) O (Grow.refl e) ow ⟨a2, ws, rfl, hb, l2⟩ k
  · have : ys = [] := List.eq_nil_of_length_eq_zero (by rw [x2, h']; rfl)
    subst this
    rw [List.append_nil] at k
    exact c (.ref a1) I H (.tup xs) O (Grow.refl e) ow ⟨a1, us, rfl, ha, l1⟩ k
  · obtain ⟨g, s⟩ := stt_imm (P := P) (w := w) (ρ := []) (σ := []) (o := .tup (us ++ ws)) ⟨e, rfl, fun i d q => by simp at q, ow⟩ hp
    exact c (.ref p) _ _ (.tup (xs ++ ys)) O g s.own ⟨p, _, rfl, upd_same, DenL.mono (Ex.new (e.free hp)) _ (l1.append l2)⟩ k
theorem denl_rep {I : Hp} {ds : List D} {xs : List V} (l : DenL I ds xs) : ∀ n : Nat, DenL I (List.replicate n ds).flatten (List.replicate n xs).flatten
  | 0 => rfl
  | n + 1 => by rw [List.replicate_succ, List.replicate_succ, List.flatten_cons, List.flatten_cons]; exact l.append (denl_rep l n)
end
end AB
namespace AB
open PySem PySem.Spec PyProof.Rows L2

section
variable {X : Cx} {e a b c o i f : Expr} {es rest : List Expr} {st : Stmt} {sts : List Stmt} {ρ : Env'} {O : Own} {pos apos cpos tpos : Pos} {P : Program} {w : World} {K : PySem.W.Frag}
/-- [x, ..] * n, a new owned list -/
theorem rd_repO {d1 : D} {xs : List D} {n : Int} {post : D → Own → Prop} (h1 : d1 = .lst xs) (hn : -(2 ^ 63) ≤ n ∧ n < 2 ^ 63) (hz : xs.length * n.toNat ≤ sizeLine) (k : ∀ p, post (.raw (.ref p)) ((p, .lst (List.replicate n.toNat xs).flatten) :: O)) : RD P w rRep d1 (.int n) O post := by
  intro I H v1 v2 e ow n1 n2 Q c
  subst h1
  obtain ⟨a, us, rfl, ha, l⟩ := n1
  refine ⟨a, n, us, rfl, n2, e _ _ ha, hn.1, hn.2, by rw [← l.length]; exact hz, fun p hp => ?_⟩
  obtain ⟨g, s⟩ := stt_new (P := P) (w := w) (ρ := []) (σ := []) (o := .lst (List.replicate n.toNat us).flatten) (m := .lst (List.replicate n.toNat xs).flatten) ⟨e, rfl, fun i d q => by simp at q, ow⟩ hp ⟨_, upd_same, denl_rep l _⟩
  exact c (.ref p) _ _ (.raw (.ref p)) _ g s.own rfl (k p)
/-! ### built-in calls -/
theorem rc_len {d : D} {ds : List D} {post : D → Own → Prop} (h : SqD d O ds) (k : post (.int (ds.length : Int)) O) : RC P w (fun xs H Q => ∃ p ys, xs = [.ref p] ∧ (SqL K H p ys ∨ SqT K H p ys) ∧ Q (.int ys.length) H) [d] O post := by
  intro I H vs e ow n Q c
  obtain ⟨v, rfl, n1⟩ := den1 n
  obtain ⟨a, xs, rfl, ha, l⟩ := sqd_at e ow n1 h
  exact ⟨a, xs, rfl, sq_or ha, c _ I H (.int (ds.length : Int)) O (Grow.refl e) ow (by rw [l.length]; rfl) k⟩
theorem maxOf_int (x : Int) : ∀ xs : List Int, (PySem.W.maxOf x xs = x ∨ PySem.W.maxOf x xs ∈ xs) ∧ x ≤ PySem.W.maxOf x xs ∧ ∀ y ∈ xs, y ≤ PySem.W.maxOf x xs := by
  intro xs
  unfold PySem.W.maxOf
  induction xs generalizing x with
  | nil => simp
  | cons z xs ih =>
    rw [List.foldl_cons]
    have h1 : (if PySem.W.DatumOrd.lt x z = true then z else x) = if x < z then z else x := by
      have : (PySem.W.DatumOrd.lt x z = true) = (x < z) := by
        show (decide (x < z) = true) = (x < z)
        simp
      simp only [this]
    rw [h1]
    obtain ⟨i1, i2, i3⟩ := ih (if x < z then z else x)
    refine ⟨?_, ?_, ?_⟩
    · rcases i1 with h | h
      · rw [h]; split
        · exact .inr List.mem_cons_self
        · exact .inl rfl
      · exact .inr (List.mem_cons_of_mem _ h)
    · refine Int.le_trans ?_ i2
      split <;> omega
    · intro y hy
      rcases List.mem_cons.mp hy with rfl | hy
      · refine Int.le_trans ?_ i2
        split <;> omega
      · exact i3 y hy
theorem minOf_int (x : Int) : ∀ xs : List Int, (PySem.W.minOf x xs = x ∨ PySem.W.minOf x xs ∈ xs) ∧ PySem.W.minOf x xs ≤ x ∧ ∀ y ∈ xs, PySem.W.minOf x xs ≤ y := by
  intro xs
  unfold PySem.W.minOf
  induction xs generalizing x with
  | nil => simp
  | cons z xs ih =>
    rw [List.foldl_cons]
    have h1 : (if PySem.W.DatumOrd.lt z x = true then z else x) = if z < x then z else x := by
      have : (PySem.W.DatumOrd.lt z x = true) = (z < x) := by
        show (decide (z < x) = true) = (z < x)
        simp
      simp only [this]
    rw [h1]
    obtain ⟨i1, i2, i3⟩ := ih (if z < x then z else x)
    refine ⟨?_, ?_, ?_⟩
    · rcases i1 with h | h
      · rw [h]; split
        · exact .inr List.mem_cons_self
        · exact .inl rfl
      · exact .inr (List.mem_cons_of_mem _ h)
    · refine Int.le_trans i2 ?_
      split <;> omega
    · intro y hy
      rcases List.mem_cons.mp hy with rfl | hy
      · refine Int.le_trans i2 ?_
        split <;> omega
      · exact i3 y hy
abbrev rMaxT (K : PySem.W.Frag) : List V → Hp → VK → Prop := fun vs H Q => ∃ (a : Addr) (ns : List Int), vs = [V.ref a] ∧ (H a = some (.lst (ns.map V.int)) ∨ H a = some (.tup (ns.map V.int))) ∧ 0 < ns.length ∧ ∀ m, m ∈ ns → (∀ y, y ∈ ns → y ≤ m) → Q (.int m) H
abbrev rMinT (K : PySem.W.Frag) : List V → Hp → VK → Prop := fun vs H Q => ∃ (a : Addr) (ns : List Int), vs = [V.ref a] ∧ (H a = some (.lst (ns.map V.int)) ∨ H a = some (.tup (ns.map V.int))) ∧ 0 < ns.length ∧ ∀ m, m ∈ ns → (∀ y, y ∈ ns → m ≤ y) → Q (.int m) H
theorem cr_maxT (hc : X.calm = true) (hu : X.A.units + 9 < cLine) : CallR X (.builtin "max") (rMaxT X.K) := by
  intro pins s σ H vs us Q I r h
  obtain ⟨a, ns, rfl, ha, hne, q⟩ := h
  rcases ha with ha | ha
  · exact cr_max hc pins s σ H _ us Q I r ⟨a, ns, rfl, SqL.of ha, hne, q⟩
  obtain ⟨its, rv, ht, hz⟩ := I.tuple (SqT.of (K := X.K) ha)
  rw [Vals.ref1 r]
  cases ns with
  | nil => simp at hne
  | cons n ns =>
    refine PySem.W.max_tuple_datum (α := Int) (x := n) (xs := ns) (I.ok.hd hc) (show s.heap.IsTuple a its.toArray from ht) (by simpa using PySem.W.HoldAll.of_ints rv.ints) (by show X.A.units + 1 + 0 < cLine; omega) fun i v h' tk hv hh hk => ?_
    obtain ⟨t, rfl⟩ := PySem.W.int_of_holds hh
    obtain ⟨h1, h2, h3⟩ := maxOf_int n ns
    refine ⟨.int _, H, I.kept (t' := tk) hk, ⟨t, rfl⟩, q _ ?_ fun y hy => ?_⟩
    · rcases h1 with h | h
      · rw [h]; exact List.mem_cons_self
      · exact List.mem_cons_of_mem _ h
    · rcases List.mem_cons.mp hy with rfl | hy
      · exact h2
      · exact h3 y hy
theorem cr_minT (hc : X.calm = true) (hu : X.A.units + 9 < cLine) : CallR X (.builtin "min") (rMinT X.K) := by
  intro pins s σ H vs us Q I r h
  obtain ⟨a, ns, rfl, ha, hne, q⟩ := h
  rcases ha with ha | ha
  · exact cr_min hc pins s σ H _ us Q I r ⟨a, ns, rfl, SqL.of ha, hne, q⟩
  obtain ⟨its, rv, ht, hz⟩ := I.tuple (SqT.of (K := X.K) ha)
  rw [Vals.ref1 r]
  cases ns with
  | nil => simp at hne
  | cons n ns =>
    refine PySem.W.min_tuple_datum (α := Int) (x := n) (xs := ns) (I.ok.hd hc) (show s.heap.IsTuple a its.toArray from ht) (by simpa using PySem.W.HoldAll.of_ints rv.ints) (by show X.A.units + 1 + 0 < cLine; omega) fun i v h' tk hv hh hk => ?_
    obtain ⟨t, rfl⟩ := PySem.W.int_of_holds hh
    obtain ⟨h1, h2, h3⟩ := minOf_int n ns
    refine ⟨.int _, H, I.kept (t' := tk) hk, ⟨t, rfl⟩, q _ ?_ fun y hy => ?_⟩
    · rcases h1 with h | h
      · rw [h]; exact List.mem_cons_self
      · exact List.mem_cons_of_mem _ h
    · rcases List.mem_cons.mp hy with rfl | hy
      · exact h2
      · exact h3 y hy
theorem rc_max {d : D} {ns : List Int} {post : D → Own → Prop} (h : SqD d O (ns.map D.int)) (hn : ns ≠ []) (k : ∀ m, m ∈ ns → (∀ y, y ∈ ns → y ≤ m) → post (.int m) O) : RC P w (rMaxT K) [d] O post := by
  intro I H vs e ow n Q c
  obtain ⟨v, rfl, n1⟩ := den1 n
  obtain ⟨a, xs, rfl, ha, l⟩ := sqd_at e ow n1 h
  rw [DenL.ints l] at ha
  exact ⟨a, ns, rfl, ha, List.length_pos_iff.mpr hn, fun m h1 h2 => c _ I H (.int m) O (Grow.refl e) ow rfl (k m h1 h2)⟩
theorem rc_min {d : D} {ns : List Int} {post : D → Own → Prop} (h : SqD d O (ns.map D.int)) (hn : ns ≠ []) (k : ∀ m, m ∈ ns → (∀ y, y ∈ ns → m ≤ y) → post (.int m) O) : RC P w (rMinT K) [d] O post := by
  intro I H vs e ow n Q c
  obtain ⟨v, rfl, n1⟩ := den1 n
  obtain ⟨a, xs, rfl, ha, l⟩ := sqd_at e ow n1 h
  rw [DenL.ints l] at ha
  exact ⟨a, ns, rfl, ha, List.length_pos_iff.mpr hn, fun m h1 h2 => c _ I H (.int m) O (Grow.refl e) ow rfl (k m h1 h2)⟩
theorem rc_min2 {i j : Int} {post : D → Own → Prop} (k : post (.int (if j < i then j else i)) O) : RC P w (fun xs H Q => ∃ i j, xs = [.int i, .int j] ∧ Q (.int (if j < i then j else i)) H) [.int i, .int j] O post :=
  rc_val (v := .int (if j < i then j else i)) (d := .int (if j < i then j else i)) (fun I H vs _ _ n Q q => by
    obtain ⟨v1, v2, rfl, e1, e2⟩ := den2 n
    exact ⟨i, j, by rw [show v1 = _ from e1, show v2 = _ from e2], q⟩) (fun _ => rfl) k
theorem denl_bls {I : Hp} : ∀ {bs : List Bool} {xs : List V}, DenL I (bs.map D.bl) xs → xs = bs.map V.bl
  | [], _, h => h
  | n :: ns, _, ⟨y, ys, r, q, l⟩ => by rw [r, show y = _ from q, denl_bls l]; rfl
theorem rc_any {bs : List Bool} {post : D → Own → Prop} (k : post (.bl (bs.any id)) O) : RC P w (rAny K) [.lst (bs.map D.bl)] O post := by
  intro I H vs e ow n Q c
  obtain ⟨v, rfl, n1⟩ := den1 n
  obtain ⟨a, xs, rfl, ha, l⟩ := n1
  rw [denl_bls l] at ha
  exact ⟨a, bs, rfl, SqL.of (e _ _ ha), c _ I H (.bl _) O (Grow.refl e) ow rfl k⟩
theorem rc_all {bs : List Bool} {post : D → Own → Prop} (k : post (.bl (bs.all id)) O) : RC P w (rAll K) [.lst (bs.map D.bl)] O post := by
  intro I H vs e ow n Q c
  obtain ⟨v, rfl, n1⟩ := den1 n
  obtain ⟨a, xs, rfl, ha, l⟩ := n1
  rw [denl_bls l] at ha
  exact ⟨a, bs, rfl, SqL.of (e _ _ ha), c _ I H (.bl _) O (Grow.refl e) ow rfl k⟩
abbrev rInt1 : List V → Hp → VK → Prop := fun xs H Q => (∃ i, xs = [.int i] ∧ Q (.int i) H) ∨ ∃ k, xs = [.bl k] ∧ Q (.int (if k then 1 else 0)) H
theorem rc_int {i : Int} {post : D → Own → Prop} (k : post (.int i) O) : RC P w rInt1 [.int i] O post :=
  rc_val (v := .int i) (d := .int i) (fun I H vs _ _ n Q q => by
    obtain ⟨v, rfl, e⟩ := den1 n
    exact .inl ⟨i, by rw [show v = _ from e], q⟩) (fun _ => rfl) k
theorem rc_intB {b : Bool} {post : D → Own → Prop} (k : post (.int (if b then 1 else 0)) O) : RC P w rInt1 [.bl b] O post :=
  rc_val (v := .int (if b then 1 else 0)) (d := .int (if b then 1 else 0)) (fun I H vs _ _ n Q q => by
    obtain ⟨v, rfl, e⟩ := den1 n
    exact .inr ⟨b, by rw [show v = _ from e], q⟩) (fun _ => rfl) k
abbrev rTupOf (K : PySem.W.Frag) : List V → Hp → VK → Prop := fun xs H Q => ∃ p ys, xs = [.ref p] ∧ ((SqL K H p ys ∧ ∀ l, H l = none → Q (.ref l) (upd H l (.tup ys))) ∨ (SqT K H p ys ∧ Q (.ref p) H))
/-- tuple(x) -/
theorem rc_tup {d : D} {ds : List D} {post : D → Own → Prop} (h : SqD d O ds) (k : post (.tup ds) O) : RC P w (rTupOf K) [d] O post := by
  intro I H vs e ow n Q c
  obtain ⟨v, rfl, n1⟩ := den1 n
  obtain ⟨a, xs, rfl, ha, l⟩ := sqd_at e ow n1 h
  rcases ha with ha | ha
  · refine ⟨a, xs, rfl, .inl ⟨SqL.of ha, fun p hp => ?_⟩⟩
    obtain ⟨g, s⟩ := stt_imm (P := P) (w := w) (ρ := []) (σ := []) (o := .tup xs) ⟨e, rfl, fun i d q => by simp at q, ow⟩ hp
    exact c (.ref p) _ _ (.tup ds) O g s.own ⟨p, _, rfl, upd_same, DenL.mono (Ex.new (e.free hp)) _ l⟩ k
  · refine ⟨a, xs, rfl, .inr ⟨SqT.of ha, ?_⟩⟩
    rcases h with rfl | rfl | ⟨p, rfl, i, hi⟩
    · obtain ⟨a2, xs2, e2, ha2, _⟩ := n1
      cases e2
      have := e _ _ ha2
      rw [ha] at this; cases this
    · exact c (.ref a) I H (.tup ds) O (Grow.refl e) ow n1 k
    · obtain ⟨_, xs2, ha2, _⟩ := ow.own _ (List.mem_of_getElem? hi)
      cases n1
      rw [ha] at ha2; cases ha2
abbrev rLstOf (K : PySem.W.Frag) : List V → Hp → VK → Prop := fun xs H Q => ∃ p ys, xs = [.ref p] ∧ (SqL K H p ys ∨ SqT K H p ys) ∧ ∀ l, H l = none → Q (.ref l) (upd H l (.lst ys))
/-- list(x), owned -/
theorem rc_lstO {d : D} {ds : List D} {post : D → Own → Prop} (h : SqD d O ds) (k : ∀ p, post (.raw (.ref p)) ((p, .lst ds) :: O)) : RC P w (rLstOf K) [d] O post := by
  intro I H vs e ow n Q c
  obtain ⟨v, rfl, n1⟩ := den1 n
  obtain ⟨a, xs, rfl, ha, l⟩ := sqd_at e ow n1 h
  refine ⟨a, xs, rfl, sq_or ha, fun p hp => ?_⟩
  obtain ⟨g, s⟩ := stt_new (P := P) (w := w) (ρ := []) (σ := []) (o := .lst xs) (m := .lst ds) ⟨e, rfl, fun i d q => by simp at q, ow⟩ hp ⟨_, upd_same, l⟩
  exact c (.ref p) _ _ (.raw (.ref p)) _ g s.own rfl (k p)
theorem rc_lst {d : D} {ds : List D} {post : D → Own → Prop} (h : SqD d O ds) (k : post (.lst ds) O) : RC P w (rLstOf K) [d] O post := by
  intro I H vs e ow n Q c
  obtain ⟨v, rfl, n1⟩ := den1 n
  obtain ⟨a, xs, rfl, ha, l⟩ := sqd_at e ow n1 h
  refine ⟨a, xs, rfl, sq_or ha, fun p hp => ?_⟩
  obtain ⟨g, s⟩ := stt_imm (P := P) (w := w) (ρ := []) (σ := []) (o := .lst xs) ⟨e, rfl, fun i d q => by simp at q, ow⟩ hp
  exact c (.ref p) _ _ (.lst ds) O g s.own ⟨p, _, rfl, upd_same, DenL.mono (Ex.new (e.free hp)) _ l⟩ k
/-! ### isinstance -/
def tyOf : D → Option String
  | .non => some "NoneType" | .bl _ => some "bool" | .int _ => some "int" | .str _ => some "str" | .tup _ => some "tuple" | .lst _ => some "list" | _ => none
theorem tyX_of {K : PySem.W.Frag} {I H : Hp} {d : D} {v : V} {T : String} (e : Ex I H) (n : Den I d v) (h : tyOf d = some T) : TyX K H v (.type T) := by
  cases d with
  | non => cases h; rw [show v = _ from n]; exact .base .non
  | bl b => cases h; rw [show v = _ from n]; exact .base (.bl _)
  | int i => cases h; rw [show v = _ from n]; exact .base (.int _)
  | str x => cases h; rw [show v = _ from n]; exact .base (.str _)
  | tup ds => cases h; obtain ⟨a, xs, rfl, ha, _⟩ := n; exact .base (.tup (e _ _ ha))
  | lst ds => cases h; obtain ⟨a, xs, rfl, ha, _⟩ := n; exact .base (.lst (e _ _ ha))
  | dK _ _ => cases h
  | ins _ _ _ => cases h
  | raw _ => cases h
  | ext _ => cases h
theorem rc_isi {d : D} {T U : String} {b : Bool} {post : D → Own → Prop} (ht : tyOf d = some T) (hk : kitB T U = some b) (k : post (.bl b) O) : RC P w (rIsi K) [d, .raw (.ty U)] O post := by
  intro I H vs e ow n Q c
  obtain ⟨v1, v2, rfl, n1, n2⟩ := den2 n
  exact ⟨v1, .ty U, .type T, .type U, b, by rw [show v2 = V.ty U from n2], .ty U, tyX_of e n1 ht, kit_ty hk, c _ I H (.bl b) O (Grow.refl e) ow rfl k⟩
theorem rc_isiT {d : D} {T U1 U2 : String} {b1 b2 : Bool} {post : D → Own → Prop} (ht : tyOf d = some T) (hk1 : kitB T U1 = some b1) (hk2 : kitB T U2 = some b2) (k : post (.bl (b1 || b2)) O) : RC P w (rIsiT K) [d, .tup [.raw (.ty U1), .raw (.ty U2)]] O post := by
  intro I H vs e ow n Q c
  obtain ⟨v1, v2, rfl, n1, n2⟩ := den2 n
  obtain ⟨a, xs, rfl, ha, l⟩ := n2
  obtain ⟨y1, y2, rfl, m1, m2⟩ := den2 l
  rw [show y1 = V.ty U1 from m1, show y2 = V.ty U2 from m2] at ha
  refine ⟨v1, a, _, .type T, [.type U1, .type U2], b1 || b2, rfl, e _ _ ha, .cons (.ty _) (.cons (.ty _) .nil), tyX_of e n1 ht, ?_, c _ I H (.bl _) O (Grow.refl e) ow rfl k⟩
  refine kitAny_cons (kit_ty hk1) (fun h1 => kitAny_cons (kit_ty hk2) (fun h2 => ?_) fun h2 => ?_) fun h1 => ?_
  · rw [h1, h2]; exact kitAny_nil
  · rw [h2]; simp
  · rw [h1]; rfl
/-! ### tests -/
theorem dt_val {post : Bool → Own → Prop} (he : ∀ whole, isTrue e X.env whole = (do let v ← whole; standAt e.pos; holding [v] (truthy v))) (h : DE X e ρ O fun d O' => ∃ k, d = .bl k ∧ post k O') : DT X e ρ O post :=
  dt_of (pt_val any_e he) fun σ H Q ⟨I, s, q⟩ => ⟨ρ, O, _, h, I, s, fun v J H1 d O1 g s1 n k => by
    obtain ⟨b, rfl, k⟩ := k
    exact ⟨b, n, q b J H1 O1 g s1 k⟩⟩
theorem dt_not {post : Bool → Own → Prop} (h : DT X e ρ O fun b O' => post (!b) O') : DT X (.UnaryOp .Not e pos) ρ O post :=
  dt_of (pt_not any_t) fun σ H Q ⟨I, s, q⟩ => ⟨ρ, O, _, h, I, s, fun b J H1 O1 g s1 k => q (!b) J H1 O1 g s1 k⟩
def DW (X : Cx) (e : Expr) (ρ : Env') (O : Own) (post : Bool → Own → Prop) : Prop := PW X e (rdT X.prog X.w ρ O post)
def aW (X : Cx) (e : Expr) : TT := fun σ H Q => ∃ ρ O post, DW X e ρ O post ∧ rdT X.prog X.w ρ O post σ H Q
theorem any_w : PW X e (aW X e) := ⟨fun wh pins s σ H Q I ⟨_, _, _, h, q⟩ => h.run wh pins s σ H Q I q⟩
theorem dt_w {post : Bool → Own → Prop} (h : DW X e ρ O post) : DT X e ρ O post := PW.pt h
theorem dw_of {t : TT} {post : Bool → Own → Prop} (h : PW X e t) (hw : ∀ σ H Q, rdT X.prog X.w ρ O post σ H Q → t σ H Q) : DW X e ρ O post := ⟨fun wh pins s σ H Q I q => h.run wh pins s σ H Q I (hw σ H Q q)⟩
theorem dw_and1 {post : Bool → Own → Prop} (h : DT X a ρ O post) : DW X (.BoolOp .And [a] pos) ρ O post := pw_and1 h
theorem dw_or1 {post : Bool → Own → Prop} (h : DT X a ρ O post) : DW X (.BoolOp .Or [a] pos) ρ O post := pw_or1 h
theorem dw_and {post : Bool → Own → Prop} (h : DT X a ρ O fun k O' => if k = true then DW X (.BoolOp .And (b :: rest) pos) ρ O' post else post false O') : DW X (.BoolOp .And (a :: b :: rest) pos) ρ O post :=
  dw_of (pw_and any_t any_w) fun σ H Q ⟨I, s, q⟩ => ⟨ρ, O, _, h, I, s, fun k J H1 O1 g s1 z => by
    cases k with
    | true => exact ⟨ρ, O1, _, z, J, s1, fun b J2 H2 O2 g2 s2 p => q b J2 H2 O2 (g.trans g2) s2 p⟩
    | false => exact q false J H1 O1 g s1 z⟩
theorem dw_or {post : Bool → Own → Prop} (h : DT X a ρ O fun k O' => if k = true then post true O' else DW X (.BoolOp .Or (b :: rest) pos) ρ O' post) : DW X (.BoolOp .Or (a :: b :: rest) pos) ρ O post :=
  dw_of (pw_or any_t any_w) fun σ H Q ⟨I, s, q⟩ => ⟨ρ, O, _, h, I, s, fun k J H1 O1 g s1 z => by
    cases k with
    | false => exact ⟨ρ, O1, _, z, J, s1, fun b J2 H2 O2 g2 s2 p => q b J2 H2 O2 (g.trans g2) s2 p⟩
    | true => exact q true J H1 O1 g s1 z⟩
/-! .. as values -/
theorem de_one {op : BoolOp} {post : D → Own → Prop} (h : DE X a ρ O post) : DE X (.BoolOp op [a] pos) ρ O post := pe_one h
theorem de_and {post : D → Own → Prop} (h : DE X a ρ O fun d O' => ∃ k, d = .bl k ∧ if k = true then DE X (.BoolOp .And (b :: rest) pos) ρ O' post else post (.bl false) O') : DE X (.BoolOp .And (a :: b :: rest) pos) ρ O post :=
  de_of (pe_and any_e any_e) fun σ H Q ⟨I, s, q⟩ => ⟨ρ, O, _, h, I, s, fun v J H1 d O1 g s1 n z => by
    obtain ⟨k, rfl, z⟩ := z
    refine ⟨k, n, ?_⟩
    cases k with
    | true => exact ⟨ρ, O1, _, z, J, s1, fun v2 J2 H2 d2 O2 g2 s2 n2 p => q v2 J2 H2 d2 O2 (g.trans g2) s2 n2 p⟩
    | false => exact q (.bl false) J H1 (.bl false) O1 g s1 rfl z⟩
theorem de_or {post : D → Own → Prop} (h : DE X a ρ O fun d O' => ∃ k, d = .bl k ∧ if k = true then post (.bl true) O' else DE X (.BoolOp .Or (b :: rest) pos) ρ O' post) : DE X (.BoolOp .Or (a :: b :: rest) pos) ρ O post :=
  de_of (pe_or any_e any_e) fun σ H Q ⟨I, s, q⟩ => ⟨ρ, O, _, h, I, s, fun v J H1 d O1 g s1 n z => by
    obtain ⟨k, rfl, z⟩ := z
    refine ⟨k, n, ?_⟩
    cases k with
    | false => exact ⟨ρ, O1, _, z, J, s1, fun v2 J2 H2 d2 O2 g2 s2 n2 p => q v2 J2 H2 d2 O2 (g.trans g2) s2 n2 p⟩
    | true => exact q (.bl true) J H1 (.bl true) O1 g s1 rfl z⟩
theorem de_not {post : D → Own → Prop} (h : DE X a ρ O fun d O' => ∃ k, d = .bl k ∧ post (.bl (!k)) O') : DE X (.UnaryOp .Not a pos) ρ O post :=
  de_of (pe_not any_e) fun σ H Q ⟨I, s, q⟩ => ⟨ρ, O, _, h, I, s, fun v J H1 d O1 g s1 n z => by
    obtain ⟨k, rfl, z⟩ := z
    exact ⟨k, n, q (.bl (!k)) J H1 (.bl (!k)) O1 g s1 rfl z⟩⟩
theorem de_if {post : D → Own → Prop} (h : DT X c ρ O fun k O' => if k = true then DE X a ρ O' post else DE X b ρ O' post) : DE X (.IfExp c a b pos) ρ O post :=
  de_of (pe_ifExp any_t any_e any_e) fun σ H Q ⟨I, s, q⟩ => ⟨ρ, O, _, h, I, s, fun k J H1 O1 g s1 z => by
    cases k with
    | true => exact ⟨ρ, O1, _, z, J, s1, fun v2 J2 H2 d2 O2 g2 s2 n2 p => q v2 J2 H2 d2 O2 (g.trans g2) s2 n2 p⟩
    | false => exact ⟨ρ, O1, _, z, J, s1, fun v2 J2 H2 d2 O2 g2 s2 n2 p => q v2 J2 H2 d2 O2 (g.trans g2) s2 n2 p⟩⟩
theorem de_neg {post : D → Own → Prop} (h : DE X a ρ O fun d O' => ∃ j, d = .int j ∧ post (.int (-j)) O') : DE X (.UnaryOp .USub a pos) ρ O post :=
  de_of (pe_un un_neg any_e) fun σ H Q ⟨I, s, q⟩ => ⟨ρ, O, _, h, I, s, fun v J H1 d O1 g s1 n z => by
    obtain ⟨k, rfl, z⟩ := z
    exact ⟨k, n, q (.int (-k)) J H1 (.int (-k)) O1 g s1 rfl z⟩⟩
/-- a <= b <= c of ints, as a test -/
theorem dt_chain {op op' : CmpOp} {p q : Int → Int → Bool} {post : Bool → Own → Prop} (ho : OpR X (compareOp op) (rI0 fun i j => .bl (p i j))) (ho' : OpR X (compareOp op') (rI0 fun i j => .bl (q i j)))
    (hm : behindInMarks op b = false) (hm' : behindInMarks op' c = false) (hp : ∀ {ta tb tc : TE}, PE X a ta → PE X b tb → PE X c tc → PT X (.Compare a [op, op'] [b, c] pos) (tTest (tChain (rI0 fun i j => .bl (p i j)) (rI0 fun i j => .bl (q i j)) ta tb tc)))
    (h : DE X a ρ O fun d1 O1 => DE X b ρ O1 fun d2 O2 => ∃ i j, d1 = .int i ∧ d2 = .int j ∧ if p i j = true then DE X c ρ O2 fun d3 O3 => ∃ k, d3 = .int k ∧ post (q j k) O3 else post false O2) : DT X (.Compare a [op, op'] [b, c] pos) ρ O post :=
  dt_of (hp any_e any_e any_e) fun σ H Q ⟨I, s, qq⟩ => ⟨ρ, O, _, h, I, s, fun v1 J1 H1 d1 O1 g1 s1 n1 h1 => ⟨ρ, O1, _, h1, J1, s1, fun v2 J2 H2 d2 O2 g2 s2 n2 z => by
    obtain ⟨i, j, rfl, rfl, z⟩ := z
    refine ⟨i, j, n1, n2, p i j, rfl, ?_⟩
    cases hq : p i j with
    | true =>
      rw [hq, if_pos rfl] at z
      exact ⟨ρ, O2, _, z, J2, s2, fun v3 J3 H3 d3 O3 g3 s3 n3 y => by
        obtain ⟨k, rfl, y⟩ := y
        exact ⟨j, k, n2, n3, _, rfl, qq _ J3 H3 O3 ((g1.trans g2).trans g3) s3 y⟩⟩
    | false =>
      rw [hq, if_neg Bool.false_ne_true] at z
      exact ⟨false, rfl, qq false J2 H2 O2 (g1.trans g2) s2 z⟩⟩⟩
/-! ### comparisons -/
theorem rd_isN {d : D} {post : D → Own → Prop} {r : Bool} (hd : ∀ I v, Den I d v → decide (v = V.non) = r) (k : post (.bl r) O) : RD P w (fun x y H Q => y = .non ∧ Q (.bl (decide (x = .non))) H) d .non O post :=
  rd_val (v := .bl r) (d := .bl r) (fun I H v1 v2 _ _ n1 n2 Q q => ⟨n2, by rw [hd I v1 n1]; exact q⟩) (fun _ => rfl) k
theorem rd_notN {d : D} {post : D → Own → Prop} {r : Bool} (hd : ∀ I v, Den I d v → decide (v = V.non) = r) (k : post (.bl (!r)) O) : RD P w (fun x y H Q => y = .non ∧ Q (.bl (!decide (x = .non))) H) d .non O post :=
  rd_val (v := .bl (!r)) (d := .bl (!r)) (fun I H v1 v2 _ _ n1 n2 Q q => ⟨n2, by rw [hd I v1 n1]; exact q⟩) (fun _ => rfl) k
theorem notnon_lst {I : Hp} {ds : List D} {v : V} (h : Den I (.lst ds) v) : decide (v = V.non) = false := by
  obtain ⟨a, xs, rfl, _⟩ := h; exact decide_eq_false fun z => by cases z
theorem notnon_ins {I : Hp} {C : Addr} {fs : List Str} {ds : List D} {v : V} (h : Den I (.ins C fs ds) v) : decide (v = V.non) = false := by
  obtain ⟨a, dx, xs, rfl, _⟩ := h; exact decide_eq_false fun z => by cases z
theorem notnon_raw {I : Hp} {a : Addr} {v : V} (h : Den I (.raw (.ref a)) v) : decide (v = V.non) = false := by
  rw [show v = _ from h]; exact decide_eq_false fun z => by cases z
/-- n in d of int keys -/
theorem dt_inK {k : Key} {post : Bool → Own → Prop} (hu : X.A.units + 1 < cLine) (hm : behindInMarks .In o = false) (h : DE X e ρ O fun d1 O1 => DE X o ρ O1 fun d2 O2 => ∃ (ks : List Key) (ds : List D), DkD d2 O2 ks ds ∧ d1 = keyD k ∧ post (kHas ks k) O2) : DT X (.Compare e [.In] [o] pos) ρ O post :=
  dt_of (pt_cmp (pc_din hu any_e any_e) hm) fun σ H Q ⟨I, s, q⟩ => ⟨ρ, O, _, h, I, s, fun v1 J1 H1 d1 O1 g1 s1 n1 h1 => ⟨ρ, O1, _, h1, J1, s1, fun v2 J2 H2 d2 O2 g2 s2 n2 z => by
    obtain ⟨ks, ds, hq, rfl, z⟩ := z
    obtain ⟨p, xs, rfl, hp, hl, l⟩ := dkd_at s2.sub s2.own n2 hq
    refine ⟨p, valV (ks.zip xs) k, rfl, ?_, _, rfl, ?_⟩
    · rw [den_keyD n1]; exact DGet.k hp
    · have e : (valV (ks.zip xs) k).isSome = kHas ks k := by
        rw [valV_zip]
        cases hk : kLk ks xs k with
        | none =>
          cases hh : kHas ks k with
          | true => exact absurd (kHas_mem.mp hh) ((kLk_none hl).mp hk)
          | false => rfl
        | some y => exact (kHas_mem.mpr (kLk_mem hk).1).symm
      rw [e]
      exact q _ J2 H2 O2 (g1.trans g2) s2 z⟩⟩
/-- k not in d of nested keys -/
theorem rd_ninN {d1 d2 : D} {ks : List NestedKey} {ds : List D} {k : NestedKey} {post : D → Own → Prop} (hq : DnD d2 O ks ds) (hk : d1 = kD k) (ht : ∃ l, k = .tup l) (hdp : k.depth ≤ 8) (z : post (.bl (!decide (k ∈ ks))) O) :
    RD P w (fun y x H Q => NGet P w H x y fun r => Q (.bl (!r.isSome)) H) d1 d2 O post := by
  intro I H v1 v2 e ow n1 n2 Q c
  subst hk
  obtain ⟨p, xs, vs, rfl, nd, rfl, rv, l⟩ := dnd_at e ow n2 hq
  obtain ⟨av, rfl⟩ := den_tupkey n1 ht
  refine ⟨p, av, xs, k, rfl, rfl, nd, Den.mono e _ n1, hdp, ?_⟩
  have ee : (atKey xs k).isSome = decide (k ∈ xs.map (·.1)) := by
    rw [atKey_has]
    cases hh : kHas (xs.map (·.1)) k with
    | true => exact (decide_eq_true (kHas_mem.mp hh)).symm
    | false => exact (decide_eq_false fun m => by rw [kHas_mem.mpr m] at hh; cases hh).symm
  show Q (V.bl (!(atKey xs k).isSome)) H
  rw [ee]
  exact c _ I H (.bl _) O (Grow.refl e) ow rfl z
end
end AB
namespace AB
open PySem PySem.Spec PyProof.Rows L2

section
variable {X : Cx} {e a b : Expr} {es : List Expr} {st : Stmt} {sts : List Stmt} {ρ : Env'} {O Oz : Own} {pos : Pos}
/-! ### targets -/
theorem dg_w {ts ts' : List Nat} {d : D} {post : Env' → Own → Prop} (hs : ∀ i ∈ ts, i ∈ ts') (h : DG X ts e d ρ O post) : DG X ts' e d ρ O post :=
  dg_of h fun v σ H Q ⟨I, s, n, q⟩ => ⟨I, s, n, fun σ1 J1 H1 ρ1 O1 g1 s1 u1 k => q σ1 J1 H1 ρ1 O1 g1 s1 ⟨u1.1, fun j hj => u1.2 j fun z => hj (hs j z)⟩ k⟩
theorem dg_nm {i : Nat} {x : Str} {ts : List Nat} {d : D} {post : Env' → Own → Prop} (hN : X.N.Nodup) (hi : X.N[i]? = some x) (hx : Loc X.env.scope x) (hf : X.fn x = true ∨ X.env.scope.names.lookup x = some .local) (ht : i ∈ ts)
    (k : post (ρ.set i (some d)) O) : DG X ts (.Name x pos) d ρ O post := dg_w (ts := [i]) (fun j hj => by rw [List.mem_singleton.mp hj]; exact ht) (dg_name hN hi hx hf k)
theorem dgs_nil {ts : List Nat} {post : Env' → Own → Prop} (k : post ρ O) : DGs X ts [] [] ρ O post :=
  dgs_of pgs_nil fun vs σ H Q ⟨I, s, n, q⟩ => ⟨n, q σ I H ρ O (Grow.refl s.sub) s ⟨rfl, fun _ _ => rfl⟩ k⟩
theorem dgs_cons {ts : List Nat} {d : D} {ds : List D} {post : Env' → Own → Prop} (hs : (assignEach (e :: es) X.env).map (·.2) = assign e X.env :: (assignEach es X.env).map (·.2))
    (h : DG X ts e d ρ O fun ρ1 O1 => DGs X ts es ds ρ1 O1 post) : DGs X ts (e :: es) (d :: ds) ρ O post :=
  dgs_of (pgs_cons (any_g (ts := ts)) (any_gs (ts := ts)) hs) fun vs σ H Q ⟨I, s, ⟨y, ys, r, n, l⟩, q⟩ => ⟨y, ys, r, ρ, d, O, _, h, I, s, n, fun σ1 J1 H1 ρ1 O1 g1 s1 u1 h1 =>
    ⟨ρ1, ds, O1, _, h1, J1, s1, DenL.mono g1.up _ l, fun σ2 J2 H2 ρ2 O2 g2 s2 u2 k => q σ2 J2 H2 ρ2 O2 (g1.trans g2) s2 ⟨u2.1.trans u1.1, fun j hj => (u2.2 j hj).trans (u1.2 j hj)⟩ k⟩⟩
theorem dg_tup {ts : List Nat} {k : Nat} {ds : List D} {post : Env' → Own → Prop} (hc : X.calm = true) (hn : (assignEach es X.env).length = ds.length) (hst : (assignEach es X.env).findIdx? (·.1) = none)
    (h : DGs X ts es ds ρ O post) : DG X ts (.Tuple es k pos) (.tup ds) ρ O post :=
  dg_of (pg_tup hc (any_gs (ts := ts)) hn hst) fun v σ H Q ⟨I, s, ⟨a, xs, e, ha, l⟩, q⟩ => ⟨a, xs, e, SqT.of (s.sub _ _ ha), l.length.symm, ρ, ds, O, _, h, I, s, l, q⟩
theorem dg_lst {ts : List Nat} {k : Nat} {ds : List D} {post : Env' → Own → Prop} (hc : X.calm = true) (hn : (assignEach es X.env).length = ds.length) (hst : (assignEach es X.env).findIdx? (·.1) = none)
    (h : DGs X ts es ds ρ O post) : DG X ts (.Tuple es k pos) (.lst ds) ρ O post :=
  dg_of (pg_lst hc (any_gs (ts := ts)) hn hst) fun v σ H Q ⟨I, s, ⟨a, xs, e, ha, l⟩, q⟩ => ⟨a, xs, e, SqL.of (s.sub _ _ ha), l.length.symm, ρ, ds, O, _, h, I, s, l, q⟩
theorem ds_par3 {i j l : Nat} {x y z : Str} {c : Expr} {px py pz pt : Pos} {kt k2 : Nat} {pt2 : Pos} {p : Post} (hc : X.calm = true) (hN : X.N.Nodup) (hi : X.N[i]? = some x) (hj : X.N[j]? = some y) (hl : X.N[l]? = some z) (hij : i ≠ j) (hil : i ≠ l) (hjl : j ≠ l)
    (hx : X.env.scope.names.lookup x = some .local) (hy : X.env.scope.names.lookup y = some .local) (hz : X.env.scope.names.lookup z = some .local)
    (hw : swappedStores [.Tuple [.Name x px, .Name y py, .Name z pz] kt pt] (.Tuple [a, b, c] k2 pt2) X.env = pure (some [x, y, z]))
    (hs : swapsWithSole [.Tuple [.Name x px, .Name y py, .Name z pz] kt pt] (.Tuple [a, b, c] k2 pt2) pos.line X.env = pure false)
    (h : DA X [a, b, c] ρ O fun ds O' => ∃ d1 d2 d3, ds = [d1, d2, d3] ∧ p.nx (((ρ.set i (some d1)).set j (some d2)).set l (some d3)) O') : DS X (.Assign [.Tuple [.Name x px, .Name y py, .Name z pz] kt pt] (.Tuple [a, b, c] k2 pt2) pos) ρ O p :=
  ds_of (ps_par3 hc hN hi hj hl hij hil hjl hx hy hz any_a hw hs) fun Dn σ H ⟨I, s, k1, k2, k3, k4⟩ => ⟨ρ, O, _, h, I, s, fun vs J H1 ds O1 g s1 n q => by
    obtain ⟨d1, d2, d3, rfl, q⟩ := q
    obtain ⟨v1, ys, rfl, n1, l⟩ := n
    obtain ⟨v2, v3, rfl, n2, n3⟩ := den2 l
    exact ⟨v1, v2, v3, rfl, k1 _ J H1 _ O1 g (((s1.set i n1).set j n2).set _ n3) q⟩⟩
/-! ### iterators -/
theorem di_lst {tg : Expr} {k : List D → Own → Prop} (h : DE X e ρ O fun d O1 => ∃ ds, d = .lst ds ∧ k ds O1) : DI X tg e Oz ρ O k :=
  di_of (pi_list any_e) fun σ H R ⟨I, s, q⟩ => ⟨ρ, O, _, h, I, s, fun v J H1 d O1 g s1 n z => by
    obtain ⟨ds, rfl, z⟩ := z
    obtain ⟨a, xs, rfl, ha, l⟩ := n
    refine ⟨a, rfl, ⟨xs, SqL.of (s1.sub _ _ ha)⟩, q _ J H1 ds O1 g s1 ?_ z⟩
    intro I1 H2 O2 e1 e2 _ _
    have hx := SqL.of (K := X.K) (e2 _ _ (e1 _ _ ha))
    have hl := l.length
    refine ⟨fun i hi => ⟨xs, xs[i], hx, List.getElem?_eq_getElem (by omega)⟩, ⟨xs, hx, by omega⟩, fun i x H' d hd y => ?_⟩
    obtain ⟨rfl, y⟩ := y
    obtain ⟨v, h1, h2⟩ := l.get hd
    have h3 := y xs hx
    rw [h1] at h3
    cases h3
    exact ⟨I1, Grow.refl e2, Den.mono e1 _ h2⟩⟩
theorem di_tup {tg : Expr} {k : List D → Own → Prop} (h : DE X e ρ O fun d O1 => ∃ ds, d = .tup ds ∧ k ds O1) : DI X tg e Oz ρ O k :=
  di_of (pi_tup any_e) fun σ H R ⟨I, s, q⟩ => ⟨ρ, O, _, h, I, s, fun v J H1 d O1 g s1 n z => by
    obtain ⟨ds, rfl, z⟩ := z
    obtain ⟨a, xs, rfl, ha, l⟩ := n
    refine ⟨a, rfl, ⟨xs, SqT.of (s1.sub _ _ ha)⟩, q _ J H1 ds O1 g s1 ?_ z⟩
    intro I1 H2 O2 e1 e2 _ _
    have hx := SqT.of (K := X.K) (e2 _ _ (e1 _ _ ha))
    have hl := l.length
    refine ⟨fun i hi => ⟨xs, xs[i], hx, List.getElem?_eq_getElem (by omega)⟩, ⟨xs, hx, by omega⟩, fun i x H' d hd y => ?_⟩
    obtain ⟨rfl, y⟩ := y
    obtain ⟨v, h1, h2⟩ := l.get hd
    have h3 := y xs hx
    rw [h1] at h3
    cases h3
    exact ⟨I1, Grow.refl e2, Den.mono e1 _ h2⟩⟩
theorem di_sq {tg : Expr} {d0 : D} {ds : List D} {k : List D → Own → Prop} (hd : d0 = .lst ds ∨ d0 = .tup ds) (h : DE X e ρ O fun d O1 => d = d0 ∧ k ds O1) : DI X tg e Oz ρ O k := by
  rcases hd with rfl | rfl
  · exact di_lst (h.imp fun d O' z => ⟨ds, z.1, z.2⟩)
  · exact di_tup (h.imp fun d O' z => ⟨ds, z.1, z.2⟩)
def rngD (lo : Int) (n : Nat) : List D := (List.range n).map fun i => .int (lo + (i : Nat))
theorem rngD_length (lo : Int) (n : Nat) : (rngD lo n).length = n := by simp [rngD]
theorem rngD_get {lo : Int} {n i : Nat} {d : D} (h : (rngD lo n)[i]? = some d) : i < n ∧ d = .int (lo + (i : Nat)) := by
  unfold rngD at h
  rw [List.getElem?_map] at h
  cases hr : (List.range n)[i]? with
  | none => rw [hr] at h; cases h
  | some j =>
    rw [hr] at h
    obtain ⟨h1, h2⟩ := List.getElem?_eq_some_iff.mp hr
    simp at h1 h2 h
    subst h2
    exact ⟨h1, h.symm⟩
theorem lk_rng {P : Program} {w : World} {I : Hp} {lo : Int} {n : Nat} : Lk P w (Itr lo n) I Oz (rngD lo n) := by
  intro I1 H2 O2 e1 e2 _ _
  refine ⟨fun i hi => ?_, ?_, fun i x H' d hd y => ?_⟩
  · rw [rngD_length] at hi; exact hi
  · show n ≤ _
    rw [rngD_length]; exact Nat.le_refl _
  · obtain ⟨rfl, rfl⟩ := y
    obtain ⟨_, rfl⟩ := rngD_get hd
    exact ⟨I1, Grow.refl e2, rfl⟩
theorem di_rng1 {tg : Expr} {p : Pos} {k : List D → Own → Prop} (hg : Gl X "range") (hm : X.mg "range" = none) (hs : starEach [a] X.env = [(false, eval a X.env)])
    (h : DA X [a] ρ O fun ds O1 => ∃ j : Int, ds = [.int j] ∧ -(2 ^ 62) ≤ j ∧ j < 2 ^ 62 ∧ k (rngD 0 j.toNat) O1) : DI X tg (.Call (.Name "range" p) [a] [] pos) Oz ρ O k :=
  di_of (pi_range1 hg hm any_a hs) fun σ H R ⟨I, s, q⟩ => ⟨ρ, O, _, h, I, s, fun vs J H1 ds O1 g s1 n z => by
    obtain ⟨j, rfl, h1, h2, z⟩ := z
    obtain ⟨v, rfl, n1⟩ := den1 n
    exact ⟨j, by rw [show v = V.int j from n1], h1, h2, q _ J H1 _ O1 g s1 lk_rng z⟩⟩
theorem di_rng2 {tg : Expr} {p : Pos} {k : List D → Own → Prop} (hg : Gl X "range") (hm : X.mg "range" = none) (hs : starEach [a, b] X.env = [(false, eval a X.env), (false, eval b X.env)]) (hs2 : starEach [b] X.env = [(false, eval b X.env)])
    (h : DA X [a, b] ρ O fun ds O1 => ∃ i j : Int, ds = [.int i, .int j] ∧ (-(2 ^ 62) ≤ i ∧ i < 2 ^ 62 ∧ -(2 ^ 62) ≤ j ∧ j < 2 ^ 62) ∧ k (rngD i (j - i).toNat) O1) : DI X tg (.Call (.Name "range" p) [a, b] [] pos) Oz ρ O k :=
  di_of (pi_range2 hg hm any_a hs hs2) fun σ H R ⟨I, s, q⟩ => ⟨ρ, O, _, h, I, s, fun vs J H1 ds O1 g s1 n z => by
    obtain ⟨i, j, rfl, h1, z⟩ := z
    obtain ⟨v1, v2, rfl, n1, n2⟩ := den2 n
    exact ⟨i, j, by rw [show v1 = V.int i from n1, show v2 = V.int j from n2], h1, q _ J H1 _ O1 g s1 lk_rng z⟩⟩
/-- pairs, each new -/
def pairD (xs ys : List D) : List D := (xs.zip ys).map fun p => .tup [p.1, p.2]
theorem pairD_get {xs ys : List D} {i : Nat} {d : D} (h : (pairD xs ys)[i]? = some d) : ∃ x y, xs[i]? = some x ∧ ys[i]? = some y ∧ d = .tup [x, y] := by
  unfold pairD at h
  rw [List.getElem?_map] at h
  cases hz : (xs.zip ys)[i]? with
  | none => rw [hz] at h; cases h
  | some p =>
    rw [hz] at h
    obtain ⟨x, y⟩ := p
    obtain ⟨h1, h2⟩ := List.getElem?_zip_eq_some.mp hz
    exact ⟨x, y, h1, h2, by simpa using h.symm⟩
theorem pairD_length (xs ys : List D) : (pairD xs ys).length = min xs.length ys.length := by simp [pairD]
theorem new_grow {I1 H2 : Hp} {T : Addr} {o : HO} (e2 : Ex I1 H2) (hT : H2 T = none) : Grow [] [] I1 H2 (upd I1 T o) (upd H2 T o) :=
  ⟨Ex.new (e2.free hT), e2.both, fun a u _ h => by rw [upd_ne (ne_of_none h hT)]; exact h, fun a u _ h h2 => by rw [upd_ne (ne_of_none h hT)]; exact h2, fun a h => (nomatch h)⟩
theorem di_zipT {p tpos : Pos} {elts : List Expr} {kk : Nat} {k : List D → Own → Prop} (hg : Gl X "zip") (hm : X.mg "zip" = none)
    (hs : starEach [a, b] X.env = (false, eval a X.env) :: starEach [b] X.env) (hpl : (backTo pos (starEach [b] X.env)).any (·.1) = false)
    (h : DA X [a, b] ρ O fun ds O1 => ∃ xs ys, ds = [.tup xs, .tup ys] ∧ k (pairD xs ys) O1) : DI X (.Tuple elts kk tpos) (.Call (.Name "zip" p) [a, b] [] pos) Oz ρ O k :=
  di_of (RZ.pi_zipA hg hm any_a hs hpl) fun σ H R ⟨I, s, q⟩ => ⟨ρ, O, _, h, I, s, fun vs J H1 ds O1 g s1 n z => by
    obtain ⟨xs, ys, rfl, z⟩ := z
    obtain ⟨v1, v2, rfl, ⟨a, us, rfl, ha, l1⟩, ⟨b, ws, rfl, hb, l2⟩⟩ := den2 n
    refine ⟨a, b, us, ws, rfl, .inr ⟨SqT.of (s1.sub _ _ ha), SqT.of (s1.sub _ _ hb), q _ J H1 _ O1 g s1 ?_ z⟩⟩
    intro I1 H2 O2 e1 e2 _ _
    have hx := SqT.of (K := X.K) (e2 _ _ (e1 _ _ ha))
    have hy := SqT.of (K := X.K) (e2 _ _ (e1 _ _ hb))
    have hl1 := l1.length
    have hl2 := l2.length
    rw [pairD_length]
    refine ⟨fun i hi => ⟨us, ws, us[i], ws[i], hx, hy, List.getElem?_eq_getElem (by omega), List.getElem?_eq_getElem (by omega)⟩, ⟨us, ws, hx, hy, by omega⟩, fun i x H' d hd y => ?_⟩
    obtain ⟨T, x1, y1, rfl, hT, rfl, y2, y3⟩ := y
    obtain ⟨d1, d2, hd1, hd2, rfl⟩ := pairD_get hd
    obtain ⟨u1, e3, m1⟩ := l1.get hd1
    obtain ⟨u2, e4, m2⟩ := l2.get hd2
    have z1 := y2 us hx
    have z2 := y3 ws hy
    rw [e3] at z1; rw [e4] at z2
    cases z1; cases z2
    have gg := new_grow (o := .tup [x1, y1]) e2 hT
    exact ⟨_, gg, T, _, rfl, upd_same, DenL.cons (Den.mono (e1.trans gg.up) _ m1) (DenL.cons (Den.mono (e1.trans gg.up) _ m2) rfl)⟩⟩
theorem di_zipL {p tpos : Pos} {elts : List Expr} {kk : Nat} {k : List D → Own → Prop} (hg : Gl X "zip") (hm : X.mg "zip" = none)
    (hs : starEach [a, b] X.env = (false, eval a X.env) :: starEach [b] X.env) (hpl : (backTo pos (starEach [b] X.env)).any (·.1) = false)
    (h : DA X [a, b] ρ O fun ds O1 => ∃ xs ys, ds = [.lst xs, .lst ys] ∧ k (pairD xs ys) O1) : DI X (.Tuple elts kk tpos) (.Call (.Name "zip" p) [a, b] [] pos) Oz ρ O k :=
  di_of (RZ.pi_zipA hg hm any_a hs hpl) fun σ H R ⟨I, s, q⟩ => ⟨ρ, O, _, h, I, s, fun vs J H1 ds O1 g s1 n z => by
    obtain ⟨xs, ys, rfl, z⟩ := z
    obtain ⟨v1, v2, rfl, ⟨a, us, rfl, ha, l1⟩, ⟨b, ws, rfl, hb, l2⟩⟩ := den2 n
    refine ⟨a, b, us, ws, rfl, .inl ⟨SqL.of (s1.sub _ _ ha), SqL.of (s1.sub _ _ hb), q _ J H1 _ O1 g s1 ?_ z⟩⟩
    intro I1 H2 O2 e1 e2 _ _
    have hx := SqL.of (K := X.K) (e2 _ _ (e1 _ _ ha))
    have hy := SqL.of (K := X.K) (e2 _ _ (e1 _ _ hb))
    have hl1 := l1.length
    have hl2 := l2.length
    rw [pairD_length]
    refine ⟨fun i hi => ⟨us, ws, us[i], ws[i], hx, hy, List.getElem?_eq_getElem (by omega), List.getElem?_eq_getElem (by omega)⟩, ⟨us, ws, hx, hy, by omega⟩, fun i x H' d hd y => ?_⟩
    obtain ⟨T, x1, y1, rfl, hT, rfl, y2, y3⟩ := y
    obtain ⟨d1, d2, hd1, hd2, rfl⟩ := pairD_get hd
    obtain ⟨u1, e3, m1⟩ := l1.get hd1
    obtain ⟨u2, e4, m2⟩ := l2.get hd2
    have z1 := y2 us hx
    have z2 := y3 ws hy
    rw [e3] at z1; rw [e4] at z2
    cases z1; cases z2
    have gg := new_grow (o := .tup [x1, y1]) e2 hT
    exact ⟨_, gg, T, _, rfl, upd_same, DenL.cons (Den.mono (e1.trans gg.up) _ m1) (DenL.cons (Den.mono (e1.trans gg.up) _ m2) rfl)⟩⟩
def enumD (xs : List D) : List D := xs.zipIdx.map fun p => .tup [.int (p.2 : Nat), p.1]
theorem enumD_length (xs : List D) : (enumD xs).length = xs.length := by simp [enumD]
theorem enumD_get {xs : List D} {i : Nat} {d : D} (h : (enumD xs)[i]? = some d) : ∃ x, xs[i]? = some x ∧ d = .tup [.int (i : Nat), x] := by
  unfold enumD at h
  rw [List.getElem?_map, List.getElem?_zipIdx] at h
  cases hx : xs[i]? with
  | none => rw [hx] at h; cases h
  | some x => rw [hx] at h; exact ⟨x, rfl, by simpa using h.symm⟩
theorem di_enumL {p tpos : Pos} {elts : List Expr} {kk : Nat} {k : List D → Own → Prop} (hg : Gl X "enumerate") (hm : X.mg "enumerate" = none) (hs : starEach [a] X.env = [(false, eval a X.env)])
    (h : DA X [a] ρ O fun ds O1 => ∃ xs, ds = [.lst xs] ∧ k (enumD xs) O1) : DI X (.Tuple elts kk tpos) (.Call (.Name "enumerate" p) [a] [] pos) Oz ρ O k :=
  di_of (pi_enum hg hm any_a hs) fun σ H R ⟨I, s, q⟩ => ⟨ρ, O, _, h, I, s, fun vs J H1 ds O1 g s1 n z => by
    obtain ⟨xs, rfl, z⟩ := z
    obtain ⟨v1, rfl, ⟨a, us, rfl, ha, l1⟩⟩ := den1 n
    refine ⟨a, us, rfl, SqL.of (s1.sub _ _ ha), q _ J H1 _ O1 g s1 ?_ z⟩
    intro I1 H2 O2 e1 e2 _ _
    have hx := SqL.of (K := X.K) (e2 _ _ (e1 _ _ ha))
    have hl1 := l1.length
    rw [enumD_length]
    refine ⟨fun i hi => ⟨us, us[i], hx, List.getElem?_eq_getElem (by omega)⟩, ⟨us, hx, by omega⟩, fun i x H' d hd y => ?_⟩
    obtain ⟨T, x1, rfl, hT, rfl, y2⟩ := y
    obtain ⟨d1, hd1, rfl⟩ := enumD_get hd
    obtain ⟨u1, e3, m1⟩ := l1.get hd1
    have z1 := y2 us hx
    rw [e3] at z1
    cases z1
    have gg := new_grow (o := .tup [.int (i : Nat), x1]) e2 hT
    exact ⟨_, gg, T, _, rfl, upd_same, DenL.cons (show Den _ _ _ from rfl) (DenL.cons (Den.mono (e1.trans gg.up) _ m1) rfl)⟩⟩
end
end AB
namespace AB
open PySem PySem.Spec PyProof.Rows L2

section
variable (X : Cx) (scope : Scope)
/-! judgements in each block of a comprehension -/
def BE (e : Expr) (ρ : Env') (O : Own) (post : D → Own → Prop) : Prop := ∀ s H C cl fp, DE (X.blk s H scope (compEnvC scope cl C X.env) fp) e ρ O post
def BT (e : Expr) (ρ : Env') (O : Own) (post : Bool → Own → Prop) : Prop := ∀ s H C cl fp, DT (X.blk s H scope (compEnvC scope cl C X.env) fp) e ρ O post
def BG (ts : List Nat) (e : Expr) (d : D) (ρ : Env') (O : Own) (post : Env' → Own → Prop) : Prop := ∀ s H C cl fp, DG (X.blk s H scope (compEnvC scope cl C X.env) fp) ts e d ρ O post
def BI (tg e : Expr) (Oz : Own) (ρ : Env') (O : Own) (k : List D → Own → Prop) : Prop := ∀ s H C cl fp, DI (X.blk s H scope (compEnvC scope cl C X.env) fp) tg e Oz ρ O k
def aBE (e : Expr) : TE := fun σ H Q => ∃ ρ O post, BE X scope e ρ O post ∧ rdE X.prog X.w ρ O post σ H Q
def aBT (e : Expr) : TT := fun σ H Q => ∃ ρ O post, BT X scope e ρ O post ∧ rdT X.prog X.w ρ O post σ H Q
def aBG (ts : List Nat) (e : Expr) : TG := fun v σ H Q => ∃ ρ d O post, BG X scope ts e d ρ O post ∧ rdG X.prog X.w ts ρ d O post v σ H Q
def aBI (tg e : Expr) : TI := fun σ H R => ∃ Oz ρ O k, BI X scope tg e Oz ρ O k ∧ rdI X.prog X.w Oz ρ O k σ H R
/-- no test, or one -/
def BTs (ifs : List Expr) (ρ : Env') (O : Own) (post : Bool → Own → Prop) : Prop :=
  match ifs with
  | [] => post true O
  | [c] => BT X scope c ρ O post
  | _ => False
def aBTs (ifs : List Expr) : TT :=
  match ifs with
  | [] => tYes
  | [c] => aBT X scope c
  | _ => fun _ _ _ => False
end
section
variable {X : Cx} {scope : Scope} {e a b : Expr} {ρ : Env'} {O Oz : Own} {pos : Pos}
theorem any_be {s : Shared} {H : Hp} {C : Addr} {cl : List (Str × Addr)} {fp : List Addr} : PE (X.blk s H scope (compEnvC scope cl C X.env) fp) e (aBE X scope e) := ⟨fun pins s' σ H' Q I ⟨_, _, _, h, q⟩ => (h s H C cl fp).run pins s' σ H' Q I q⟩
theorem any_bt {s : Shared} {H : Hp} {C : Addr} {cl : List (Str × Addr)} {fp : List Addr} : PT (X.blk s H scope (compEnvC scope cl C X.env) fp) e (aBT X scope e) := ⟨fun pins s' σ H' Q I ⟨_, _, _, h, q⟩ => (h s H C cl fp).run pins s' σ H' Q I q⟩
theorem any_bg {ts : List Nat} {s : Shared} {H : Hp} {C : Addr} {cl : List (Str × Addr)} {fp : List Addr} : PG (X.blk s H scope (compEnvC scope cl C X.env) fp) e (aBG X scope ts e) := ⟨fun pins s' σ H' v u Q I r ⟨_, _, _, _, h, q⟩ => (h s H C cl fp).run pins s' σ H' v u Q I r q⟩
theorem any_bi {tg : Expr} {s : Shared} {H : Hp} {C : Addr} {cl : List (Str × Addr)} {fp : List Addr} : PI (X.blk s H scope (compEnvC scope cl C X.env) fp) tg e (aBI X scope tg e) := ⟨fun pins s' σ H' R I ⟨_, _, _, _, h, q⟩ => (h s H C cl fp).run pins s' σ H' R I q⟩
theorem any_bts {ifs : List Expr} (h2 : ifs.length ≤ 1) {s : Shared} {H : Hp} {C : Addr} {cl : List (Str × Addr)} {fp : List Addr} : PTs (X.blk s H scope (compEnvC scope cl C X.env) fp) ifs (aBTs X scope ifs) := by
  match ifs, h2 with
  | [], _ => exact pts_nil
  | [c], _ => exact pts_one any_bt
  | _ :: _ :: _, h => simp at h
theorem bts_run {ifs : List Expr} {post : Bool → Own → Prop} {I H : Hp} {σ : L2.St} {Q : Bool → Hp → Prop} (h : BTs X scope ifs ρ O post) (s : Stt X.prog X.w I H ρ σ O)
    (q : ∀ b J H' O', Grow (adr O) (adr O') I H J H' → Stt X.prog X.w J H' ρ σ O' → post b O' → Q b H') : aBTs X scope ifs σ H Q := by
  match ifs, h with
  | [], h => exact q true I H O (Grow.refl s.sub) s h
  | [c], h => exact ⟨ρ, O, post, h, I, s, q⟩
  | _ :: _ :: _, h => exact h.elim
/-- the element goes to the list at D, which is owned behind the others -/
theorem lc_put {P : Program} {w : World} {J H : Hp} {σ : L2.St} {O : Own} {D0 : Addr} {acc : List D} {dv : D} {y : V} (s : Stt P w J H ρ σ (O ++ [(D0, .lst acc)])) (n : Den J dv y) (hz : acc.length < sizeLine) :
    ∃ accV, H D0 = some (.lst accV) ∧ accV.length < sizeLine ∧ Grow (adr (O ++ [(D0, MO.lst acc)])) (adr (O ++ [(D0, MO.lst (acc ++ [dv]))])) J H J (upd H D0 (.lst (accV ++ [y]))) ∧ Stt P w J (upd H D0 (.lst (accV ++ [y]))) ρ σ (O ++ [(D0, .lst (acc ++ [dv]))]) := by
  have hi : (O ++ [(D0, MO.lst acc)])[O.length]? = some (D0, .lst acc) := by simp
  obtain ⟨_, accV, h1, l⟩ := s.own.own _ (List.mem_of_getElem? hi)
  obtain ⟨g, s'⟩ := stt_write (o := .lst (accV ++ [y])) (m' := .lst (acc ++ [dv])) s hi ⟨_, upd_same, l.snoc n⟩
  have e : (O ++ [(D0, MO.lst acc)]).set O.length (D0, .lst (acc ++ [dv])) = O ++ [(D0, .lst (acc ++ [dv]))] := by simp
  rw [e] at g s'
  exact ⟨accV, h1, by rw [← l.length]; exact hz, g, s'⟩
theorem Stt.left {P : Program} {w : World} {J H : Hp} {σ : L2.St} {O O' : Own} (s : Stt P w J H ρ σ (O ++ O')) : Stt P w J H ρ σ O := ⟨s.sub, s.len, s.env, s.own.left⟩
/-- the list of a comprehension, new, behind the others -/
theorem lc_new {P : Program} {w : World} {J H : Hp} {σ : L2.St} {O : Own} {D0 : Addr} (s : Stt P w J H ρ σ O) (hD : H D0 = none) :
    Grow (adr O) (adr (O ++ [(D0, MO.lst [])])) J H J (upd H D0 (.lst [])) ∧ Stt P w J (upd H D0 (.lst [])) ρ σ (O ++ [(D0, .lst [])]) := by
  obtain ⟨g, s'⟩ := stt_new (o := .lst []) (m := .lst []) s hD ⟨[], upd_same, rfl⟩
  have hp : ((D0, MO.lst []) :: O).Perm (O ++ [(D0, .lst [])]) := (List.perm_append_singleton _ _).symm
  exact ⟨g.perm (fun a => Iff.rfl) fun a ha => (hp.map _).mem_iff.mpr ha, ⟨s'.sub, s'.len, s'.env, s'.own.perm hp⟩⟩
/-- what a comprehension is to show: its invariant by the turn, the list so far, what is owned -/
def LcD (X : Cx) (scope : Scope) (vs : List Nat) (tg elt : Expr) (ifs : List Expr) (Oz : Own) (ρ : Env') (ds : List D) (O1 : Own) (fin : List D → Own → Prop) : Prop :=
  ∃ Iv : Nat → List D → Own → Prop, Iv 0 [] O1 ∧
      (∀ i d acc O', ds[i]? = some d → Iv i acc O' → BG X scope vs tg d (wipeR ρ vs) O' fun ρ2 O2 => BTs X scope ifs ρ2 O2 fun b O3 =>
        if b = true then BE X scope elt ρ2 O3 fun dv O4 => acc.length < sizeLine ∧ Iv (i + 1) (acc ++ [dv]) O4 else Iv (i + 1) acc O3) ∧
      (∀ i acc O', Iv i acc O' → ∀ q ∈ Oz, q ∈ O') ∧ ∀ acc O', Iv ds.length acc O' → fin acc O'
theorem lc_wp {elt tg iter : Expr} {ifs : List Expr} {vs : List Nat} {post : D → Own → Prop} {σ : L2.St} {H : Hp} {Q : VK}
    (h : DI X tg iter Oz ρ O fun ds O1 => LcD X scope vs tg elt ifs Oz ρ ds O1 fun acc O' => ∀ p, post (.raw (.ref p)) ((p, .lst acc) :: O')) (r : rdE X.prog X.w ρ O post σ H Q) :
    tLc (aI X tg iter) (aBG X scope vs tg) (aBTs X scope ifs) (aBE X scope elt) vs σ H Q := by
  obtain ⟨I, s, q⟩ := r
  refine ⟨Oz, ρ, O, _, h, I, s, fun Jt J1 H1 ds O1 g1 s1 lk ⟨Iv, h0, hstep, hz, hend⟩ => fun D0 hD => ?_⟩
  obtain ⟨gN, sN⟩ := lc_new s1 hD
  refine ⟨fun i m H' => m = ds.length - i ∧ i ≤ ds.length ∧ ∃ acc J' O', Grow (adr O1) (adr (O' ++ [(D0, MO.lst acc)])) J1 H1 J' H' ∧ Stt X.prog X.w J' H' ρ σ (O' ++ [(D0, .lst acc)]) ∧ Iv i acc O', ⟨ds.length, by simp, Nat.zero_le _, [], J1, O1, gN, sN, h0⟩, ?_⟩
  rintro i m H' ⟨rfl, hi, acc, J', O', g', s', iv⟩
  obtain ⟨l1, l2, l3⟩ := lk J' H' O' g'.up s'.sub s'.own.left (hz i acc O' iv)
  by_cases hlt : i < ds.length
  · refine .inr ⟨l1 i hlt, fun H3 => ∃ acc J3 O3, Grow (adr O1) (adr (O3 ++ [(D0, MO.lst acc)])) J1 H1 J3 H3 ∧ Stt X.prog X.w J3 H3 ρ σ (O3 ++ [(D0, .lst acc)]) ∧ Iv (i + 1) acc O3, fun H3 z => ⟨ds.length - (i + 1), by omega, rfl, hlt, z⟩, fun x H2 y => ?_⟩
    have hd0 : ds[i]? = some ds[i] := List.getElem?_eq_getElem hlt
    obtain ⟨I2, gg, n⟩ := l3 i x H2 ds[i] hd0 y
    have gg2 : Grow (adr (O' ++ [(D0, MO.lst acc)])) (adr (O' ++ [(D0, MO.lst acc)])) J' H' I2 H2 := ⟨gg.up, gg.sub, fun a o _ e => gg.kp a o (by simp) e, fun a o _ e e2 => gg.nw a o (by simp) e e2, fun a h => .inl h⟩
    have s2 : Stt X.prog X.w I2 H2 ρ σ (O' ++ [(D0, .lst acc)]) := s'.step gg2 ((s'.own).frame gg (fun _ _ z => by cases z))
    refine ⟨wipeR ρ vs, ds[i], O', _, hstep i ds[i] acc O' hd0 iv, I2, s2.left.wipe _, n, fun σ3 J3 H3 ρ3 O3 g3 s3 u3 q3 => ?_⟩
    refine ⟨(wipe_ext u3.1 u3.2).trans (wipe_idem _ _), bts_run q3 s3 fun b J4 H4 O4 g4 s4 q4 => ?_⟩
    cases b with
    | true =>
      rw [if_pos rfl] at q4 ⊢
      refine ⟨ρ3, O4, _, q4, J4, s4, fun v J5 H5 dv O5 g5 s5 n5 q5 => ?_⟩
      obtain ⟨gF, oF⟩ := frame_call s2.own ((g3.trans g4).trans g5) s5.own
      have sF := s2.step gF oF
      obtain ⟨accV, e1, e2, gP, sP⟩ := lc_put sF n5 q5.1
      exact ⟨accV, e1, e2, _, J5, O5, ((g'.trans gg2).trans gF).trans gP, sP, q5.2⟩
    | false =>
      rw [if_neg Bool.false_ne_true] at q4 ⊢
      obtain ⟨gF, oF⟩ := frame_call s2.own (g3.trans g4) s4.own
      exact ⟨acc, J4, O4, (g'.trans gg2).trans gF, s2.step gF oF, q4⟩
  · have e : i = ds.length := by omega
    subst e
    have hp : (O' ++ [(D0, MO.lst acc)]).Perm ((D0, .lst acc) :: O') := List.perm_append_singleton _ _
    refine .inl ⟨l2, q (.ref D0) J' H' (.raw (.ref D0)) _ (g1.trans (g'.perm (fun a => Iff.rfl) fun a ha => (hp.map _).mem_iff.mpr ha)) ⟨s'.sub, s'.len, s'.env, s'.own.perm hp⟩ rfl (hend acc O' iv D0)⟩
theorem LcD.imp {vs : List Nat} {tg elt : Expr} {ifs : List Expr} {ds : List D} {O1 : Own} {f g : List D → Own → Prop} (h : LcD X scope vs tg elt ifs Oz ρ ds O1 f) (hi : ∀ acc O', f acc O' → g acc O') : LcD X scope vs tg elt ifs Oz ρ ds O1 g := by
  obtain ⟨Iv, h0, h1, h2, h3⟩ := h
  exact ⟨Iv, h0, h1, h2, fun acc O' iv => hi _ _ (h3 acc O' iv)⟩
theorem DI.imp {tg : Expr} {k k' : List D → Own → Prop} (h : DI X tg e Oz ρ O k) (hi : ∀ ds O', k ds O' → k' ds O') : DI X tg e Oz ρ O k' :=
  di_of h fun σ H R ⟨I, s, q⟩ => ⟨I, s, fun Jt J H' ds O' g s' lk z => q Jt J H' ds O' g s' lk (hi ds O' z)⟩
/-- [elt for tg in iter if ..], the list owned -/
theorem de_lcO {elt tg iter : Expr} {ifs : List Expr} {own : List (Str × Nat)} {post : D → Own → Prop} (hc : X.calm = true) (hN : X.N.Nodup) (ok : BlkOk X.N X.env.scope scope own) (h2 : ifs.length ≤ 1) (hs : ∀ x, foldedSetIterable iter X.env x = pure x)
    (h : DI X tg iter Oz ρ O fun ds O1 => LcD X scope (own.map (·.2)) tg elt ifs Oz ρ ds O1 fun acc O' => ∀ p, post (.raw (.ref p)) ((p, .lst acc) :: O')) : DE X (.ListComp elt [⟨tg, iter, ifs, 0⟩] scope pos) ρ O post :=
  de_of (pe_lc hc hN (any_i (tg := tg)) ok (fun s H C cl fp => any_bg (ts := own.map (·.2))) (fun s H C cl fp => any_bts h2) (fun s H C cl fp => any_be) hs) fun σ H Q r => lc_wp h r
/-- .. as data -/
theorem de_lc {elt tg iter : Expr} {ifs : List Expr} {own : List (Str × Nat)} {post : D → Own → Prop} (hc : X.calm = true) (hN : X.N.Nodup) (ok : BlkOk X.N X.env.scope scope own) (h2 : ifs.length ≤ 1) (hs : ∀ x, foldedSetIterable iter X.env x = pure x)
    (h : DI X tg iter Oz ρ O fun ds O1 => LcD X scope (own.map (·.2)) tg elt ifs Oz ρ ds O1 fun acc O' => post (.lst acc) O') : DE X (.ListComp elt [⟨tg, iter, ifs, 0⟩] scope pos) ρ O post :=
  de_fz (i := 0) (de_lcO hc hN ok h2 hs (h.imp fun ds O' z => z.imp fun acc O' k p => ⟨p, _, rfl, rfl, rfl, k⟩))
/-- y = [..] on one line -/
theorem ds_setLcO {i : Nat} {y : Str} {py spos : Pos} {elt tg iter : Expr} {ifs : List Expr} {own : List (Str × Nat)} {p : Post} (hc : X.calm = true) (hN : X.N.Nodup) (hy : X.N[i]? = some y) (hyl : X.env.scope.names.lookup y = some .local)
    (hsw : swapsWith (.ListComp elt [⟨tg, iter, ifs, 0⟩] scope pos) (some (.Name y py)) spos.line X.env = pure true) (ok : BlkOk X.N X.env.scope scope own) (h2 : ifs.length ≤ 1) (hs : ∀ x, foldedSetIterable iter X.env x = pure x)
    (h : DI X tg iter Oz ρ O fun ds O1 => LcD X scope (own.map (·.2)) tg elt ifs Oz ρ ds O1 fun acc O' => ∀ a, p.nx (ρ.set i (some (.raw (.ref a)))) ((a, .lst acc) :: O')) : DS X (.Assign [.Name y py] (.ListComp elt [⟨tg, iter, ifs, 0⟩] scope pos) spos) ρ O p :=
  ds_of (ps_setLc hc hN hy hyl hsw (any_i (tg := tg)) ok (fun s H C cl fp => any_bg (ts := own.map (·.2))) (fun s H C cl fp => any_bts h2) (fun s H C cl fp => any_be) hs) fun Dn σ H ⟨I, s, k1, k2, k3, k4⟩ =>
    lc_wp (post := fun d O' => p.nx (ρ.set i (some d)) O') h ⟨I, s, fun v J H' d O' g s' n q => k1 _ J H' _ O' g (s'.set i n) q⟩
theorem ds_setLc {i : Nat} {y : Str} {py spos : Pos} {elt tg iter : Expr} {ifs : List Expr} {own : List (Str × Nat)} {p : Post} (hc : X.calm = true) (hN : X.N.Nodup) (hy : X.N[i]? = some y) (hyl : X.env.scope.names.lookup y = some .local)
    (hsw : swapsWith (.ListComp elt [⟨tg, iter, ifs, 0⟩] scope pos) (some (.Name y py)) spos.line X.env = pure true) (ok : BlkOk X.N X.env.scope scope own) (h2 : ifs.length ≤ 1) (hs : ∀ x, foldedSetIterable iter X.env x = pure x)
    (h : DI X tg iter Oz ρ O fun ds O1 => LcD X scope (own.map (·.2)) tg elt ifs Oz ρ ds O1 fun acc O' => p.nx (ρ.set i (some (.lst acc))) O') : DS X (.Assign [.Name y py] (.ListComp elt [⟨tg, iter, ifs, 0⟩] scope pos) spos) ρ O p :=
  ds_of (ps_setLc hc hN hy hyl hsw (any_i (tg := tg)) ok (fun s H C cl fp => any_bg (ts := own.map (·.2))) (fun s H C cl fp => any_bts h2) (fun s H C cl fp => any_be) hs) fun Dn σ H ⟨I, s, k1, k2, k3, k4⟩ =>
    lc_wp (post := fun d O' => ∃ a acc O1, d = .raw (.ref a) ∧ O' = (a, .lst acc) :: O1 ∧ p.nx (ρ.set i (some (.lst acc))) O1) (h.imp fun ds O' z => z.imp fun acc O' k a => ⟨a, acc, O', rfl, rfl, k⟩) ⟨I, s, fun v J H' d O' g s' n q => by
      obtain ⟨a, acc, O1, rfl, rfl, q⟩ := q
      obtain ⟨J2, g2, s2, n2⟩ := stt_freeze (i := 0) s' rfl (rfl : mFz (.lst acc) = true)
      rw [show v = V.ref a from n]
      exact k1 _ J2 H' _ _ (g.trans g2) (s2.set i n2) q⟩

/-! ### two clauses -/
theorem de_lc2O {elt tg iter tg1 iter1 : Expr} {ifs ifs1 : List Expr} {own : List (Str × Nat)} {vs1 : List Nat} {Oz1 : Own} {post : D → Own → Prop} (hc : X.calm = true) (hN : X.N.Nodup) (ok : BlkOk X.N X.env.scope scope own) (hv : ∀ i ∈ vs1, i ∈ own.map (·.2)) (h2 : ifs.length ≤ 1) (h3 : ifs1.length ≤ 1)
    (hs : ∀ x, foldedSetIterable iter X.env x = pure x) (hs1 : ∀ env x, foldedSetIterable iter1 env x = pure x)
    (h : DI X tg iter Oz ρ O fun ds O1 => ∃ Iv : Nat → List D → Own → Prop, Iv 0 [] O1 ∧
      (∀ i d acc O', ds[i]? = some d → Iv i acc O' → BG X scope (own.map (·.2)) tg d (wipeR ρ (own.map (·.2))) O' fun ρ2 O2 => BTs X scope ifs ρ2 O2 fun b O3 =>
        if b = true then BI X scope tg1 iter1 Oz1 ρ2 O3 fun ds1 O4 => ∃ Iv1 : Nat → List D → Own → Prop, Iv1 0 acc O4 ∧
          (∀ j d1 acc1 O5, ds1[j]? = some d1 → Iv1 j acc1 O5 → BG X scope vs1 tg1 d1 (wipeR ρ2 vs1) O5 fun ρ3 O6 => BTs X scope ifs1 ρ3 O6 fun b O7 =>
            if b = true then BE X scope elt ρ3 O7 fun dv O8 => acc1.length < sizeLine ∧ Iv1 (j + 1) (acc1 ++ [dv]) O8 else Iv1 (j + 1) acc1 O7) ∧
          (∀ j acc1 O5, Iv1 j acc1 O5 → ∀ q ∈ Oz1, q ∈ O5) ∧ ∀ acc1 O5, Iv1 ds1.length acc1 O5 → Iv (i + 1) acc1 O5
        else Iv (i + 1) acc O3) ∧
      (∀ i acc O', Iv i acc O' → ∀ q ∈ Oz, q ∈ O') ∧ ∀ acc O', Iv ds.length acc O' → ∀ p, post (.raw (.ref p)) ((p, .lst acc) :: O')) : DE X (.ListComp elt [⟨tg, iter, ifs, 0⟩, ⟨tg1, iter1, ifs1, 0⟩] scope pos) ρ O post :=
  de_of (pe_lc2 hc hN (any_i (tg := tg)) ok hv (fun s H C cl fp => any_bg (ts := own.map (·.2))) (fun s H C cl fp => any_bts h2) (fun s H C cl fp => any_bi) (fun s H C cl fp => any_bg (ts := vs1)) (fun s H C cl fp => any_bts h3) (fun s H C cl fp => any_be) hs hs1) fun σ H Q ⟨I, s, q⟩ => by
    refine ⟨Oz, ρ, O, _, h, I, s, fun Jt J1 H1 ds O1 g1 s1 lk ⟨Iv, h0, hstep, hz, hend⟩ => fun D0 hD => ?_⟩
    obtain ⟨gN, sN⟩ := lc_new s1 hD
    refine ⟨fun i m H' => m = ds.length - i ∧ i ≤ ds.length ∧ ∃ acc J' O', Grow (adr O1) (adr (O' ++ [(D0, MO.lst acc)])) J1 H1 J' H' ∧ Stt X.prog X.w J' H' ρ σ (O' ++ [(D0, .lst acc)]) ∧ Iv i acc O', ⟨ds.length, by simp, Nat.zero_le _, [], J1, O1, gN, sN, h0⟩, ?_⟩
    rintro i m H' ⟨rfl, hi, acc, J', O', g', s', iv⟩
    obtain ⟨l1, l2, l3⟩ := lk J' H' O' g'.up s'.sub s'.own.left (hz i acc O' iv)
    by_cases hlt : i < ds.length
    · refine .inr ⟨l1 i hlt, fun H3 => ∃ acc J3 O3, Grow (adr O1) (adr (O3 ++ [(D0, MO.lst acc)])) J1 H1 J3 H3 ∧ Stt X.prog X.w J3 H3 ρ σ (O3 ++ [(D0, .lst acc)]) ∧ Iv (i + 1) acc O3, fun H3 z => ⟨ds.length - (i + 1), by omega, rfl, hlt, z⟩, fun x H2 y => ?_⟩
      have hd0 : ds[i]? = some ds[i] := List.getElem?_eq_getElem hlt
      obtain ⟨I2, gg, n⟩ := l3 i x H2 ds[i] hd0 y
      have gg2 : Grow (adr (O' ++ [(D0, MO.lst acc)])) (adr (O' ++ [(D0, MO.lst acc)])) J' H' I2 H2 := ⟨gg.up, gg.sub, fun a o _ e => gg.kp a o (by simp) e, fun a o _ e e2 => gg.nw a o (by simp) e e2, fun a h => .inl h⟩
      have s2 : Stt X.prog X.w I2 H2 ρ σ (O' ++ [(D0, .lst acc)]) := s'.step gg2 ((s'.own).frame gg (fun _ _ z => by cases z))
      refine ⟨wipeR ρ (own.map (·.2)), ds[i], O', _, hstep i ds[i] acc O' hd0 iv, I2, s2.left.wipe _, n, fun σ3 J3 H3 ρ3 O3 g3 s3 u3 q3 => ?_⟩
      refine ⟨(wipe_ext u3.1 u3.2).trans (wipe_idem _ _), bts_run q3 s3 fun b J4 H4 O4 g4 s4 q4 => ?_⟩
      cases b with
      | true =>
        rw [if_pos rfl] at q4 ⊢
        refine ⟨Oz1, ρ3, O4, _, q4, J4, s4, fun Jt1 J5 H5 ds1 O5 g5 s5 lk1 ⟨Iv1, k0, kstep, kz, kend⟩ => ?_⟩
        obtain ⟨gF, oF⟩ := frame_call s2.own ((g3.trans g4).trans g5) s5.own
        have sF := s2.step gF oF
        have gS := (g'.trans gg2).trans gF
        refine ⟨fun j k H7 => k = ds1.length - j ∧ j ≤ ds1.length ∧ ∃ acc1 J7 O7, Grow (adr O1) (adr (O7 ++ [(D0, MO.lst acc1)])) J1 H1 J7 H7 ∧ Stt X.prog X.w J7 H7 ρ σ (O7 ++ [(D0, .lst acc1)]) ∧ Stt X.prog X.w J7 H7 ρ3 σ3 (O7 ++ [(D0, .lst acc1)]) ∧ Ex J5 J7 ∧ Iv1 j acc1 O7,
          ⟨ds1.length, by simp, Nat.zero_le _, acc, J5, O5, gS, sF, ⟨s5.sub, s5.len, s5.env, oF⟩, Ex.refl _, k0⟩, ?_⟩
        rintro j k H7 ⟨rfl, hj, acc1, J7, O7, g7, s7, t7, e7, iv1⟩
        obtain ⟨m1, m2, m3⟩ := lk1 J7 H7 O7 e7 s7.sub s7.own.left (kz j acc1 O7 iv1)
        by_cases hlt1 : j < ds1.length
        · refine .inr ⟨m1 j hlt1, fun H8 => ∃ acc1 J8 O8, Grow (adr O1) (adr (O8 ++ [(D0, MO.lst acc1)])) J1 H1 J8 H8 ∧ Stt X.prog X.w J8 H8 ρ σ (O8 ++ [(D0, .lst acc1)]) ∧ Stt X.prog X.w J8 H8 ρ3 σ3 (O8 ++ [(D0, .lst acc1)]) ∧ Ex J5 J8 ∧ Iv1 (j + 1) acc1 O8, fun H8 z => ⟨ds1.length - (j + 1), by omega, rfl, hlt1, z⟩, fun x1 H8 y1 => ?_⟩
          have hd1 : ds1[j]? = some ds1[j] := List.getElem?_eq_getElem hlt1
          obtain ⟨I8, hh, n8⟩ := m3 j x1 H8 ds1[j] hd1 y1
          have hh2 : Grow (adr (O7 ++ [(D0, MO.lst acc1)])) (adr (O7 ++ [(D0, MO.lst acc1)])) J7 H7 I8 H8 := ⟨hh.up, hh.sub, fun a o _ e => hh.kp a o (by simp) e, fun a o _ e e2 => hh.nw a o (by simp) e e2, fun a h => .inl h⟩
          have o8 := (s7.own).frame hh (fun _ _ z => by cases z)
          have s8 : Stt X.prog X.w I8 H8 ρ σ (O7 ++ [(D0, .lst acc1)]) := s7.step hh2 o8
          have t8 : Stt X.prog X.w I8 H8 ρ3 σ3 (O7 ++ [(D0, .lst acc1)]) := t7.step hh2 o8
          refine ⟨wipeR ρ3 vs1, ds1[j], O7, _, kstep j ds1[j] acc1 O7 hd1 iv1, I8, t8.left.wipe _, n8, fun σ9 J9 H9 ρ9 O9 g9 s9 u9 q9 => ?_⟩
          refine ⟨(wipe_ext u9.1 u9.2).trans (wipe_idem _ _), bts_run q9 s9 fun b JA HA OA gA sA qA => ?_⟩
          cases b with
          | true =>
            rw [if_pos rfl] at qA ⊢
            refine ⟨ρ9, OA, _, qA, JA, sA, fun v JB HB dv OB gB sB nB qB => ?_⟩
            obtain ⟨gG, oG⟩ := frame_call s8.own ((g9.trans gA).trans gB) sB.own
            obtain ⟨accV, e1, e2, gP, sP⟩ := lc_put (s8.step gG oG) nB qB.1
            exact ⟨accV, e1, e2, _, JB, OB, ((g7.trans hh2).trans gG).trans gP, sP, (t8.step gG oG).step gP sP.own, ((e7.trans hh2.up).trans gG.up).trans gP.up, qB.2⟩
          | false =>
            rw [if_neg Bool.false_ne_true] at qA ⊢
            obtain ⟨gG, oG⟩ := frame_call s8.own (g9.trans gA) sA.own
            exact ⟨acc1, JA, OA, (g7.trans hh2).trans gG, s8.step gG oG, t8.step gG oG, (e7.trans hh2.up).trans gG.up, qA⟩
        · have e : j = ds1.length := by omega
          subst e
          exact .inl ⟨m2, acc1, J7, O7, g7, s7, kend acc1 O7 iv1⟩
      | false =>
        rw [if_neg Bool.false_ne_true] at q4 ⊢
        obtain ⟨gF, oF⟩ := frame_call s2.own (g3.trans g4) s4.own
        exact ⟨acc, J4, O4, (g'.trans gg2).trans gF, s2.step gF oF, q4⟩
    · have e : i = ds.length := by omega
      subst e
      have hp : (O' ++ [(D0, MO.lst acc)]).Perm ((D0, .lst acc) :: O') := List.perm_append_singleton _ _
      refine .inl ⟨l2, q (.ref D0) J' H' (.raw (.ref D0)) _ (g1.trans (g'.perm (fun a => Iff.rfl) fun a ha => (hp.map _).mem_iff.mpr ha)) ⟨s'.sub, s'.len, s'.env, s'.own.perm hp⟩ rfl (hend acc O' iv D0)⟩
/-- .. without tests, as data -/
theorem de_lc2 {elt tg iter tg1 iter1 : Expr} {own : List (Str × Nat)} {vs1 : List Nat} {Oz1 : Own} {post : D → Own → Prop} (hc : X.calm = true) (hN : X.N.Nodup) (ok : BlkOk X.N X.env.scope scope own) (hv : ∀ i ∈ vs1, i ∈ own.map (·.2))
    (hs : ∀ x, foldedSetIterable iter X.env x = pure x) (hs1 : ∀ env x, foldedSetIterable iter1 env x = pure x)
    (h : DI X tg iter Oz ρ O fun ds O1 => ∃ Iv : Nat → List D → Own → Prop, Iv 0 [] O1 ∧
      (∀ i d acc O', ds[i]? = some d → Iv i acc O' → BG X scope (own.map (·.2)) tg d (wipeR ρ (own.map (·.2))) O' fun ρ2 O2 =>
        BI X scope tg1 iter1 Oz1 ρ2 O2 fun ds1 O4 => ∃ Iv1 : Nat → List D → Own → Prop, Iv1 0 acc O4 ∧
          (∀ j d1 acc1 O5, ds1[j]? = some d1 → Iv1 j acc1 O5 → BG X scope vs1 tg1 d1 (wipeR ρ2 vs1) O5 fun ρ3 O6 => BE X scope elt ρ3 O6 fun dv O8 => acc1.length < sizeLine ∧ Iv1 (j + 1) (acc1 ++ [dv]) O8) ∧
          (∀ j acc1 O5, Iv1 j acc1 O5 → ∀ q ∈ Oz1, q ∈ O5) ∧ ∀ acc1 O5, Iv1 ds1.length acc1 O5 → Iv (i + 1) acc1 O5) ∧
      (∀ i acc O', Iv i acc O' → ∀ q ∈ Oz, q ∈ O') ∧ ∀ acc O', Iv ds.length acc O' → post (.lst acc) O') : DE X (.ListComp elt [⟨tg, iter, [], 0⟩, ⟨tg1, iter1, [], 0⟩] scope pos) ρ O post := by
  refine de_fz (i := 0) (de_lc2O (Oz1 := Oz1) hc hN ok hv (by decide) (by decide) hs hs1 (h.imp fun ds O1 ⟨Iv, h0, h1, h2, h3⟩ => ⟨Iv, h0, fun i d acc O' e iv => ?_, h2, fun acc O' iv p => ⟨p, _, rfl, rfl, rfl, h3 acc O' iv⟩⟩))
  intro s H C cl fp
  refine dg_imp (h1 i d acc O' e iv s H C cl fp) fun ρ2 O2 z => ?_
  simp only [BTs, if_true]
  intro s H C cl fp
  refine (z s H C cl fp).imp fun ds1 O4 ⟨Iv1, k0, k1, k2, k3⟩ => ⟨Iv1, k0, fun j d1 acc1 O5 e1 iv1 => ?_, k2, k3⟩
  intro s H C cl fp
  refine dg_imp (k1 j d1 acc1 O5 e1 iv1 s H C cl fp) fun ρ3 O6 z => ?_
  exact z
where
  dg_imp {X : Cx} {e : Expr} {ts : List Nat} {d : D} {ρ : Env'} {O : Own} {p p' : Env' → Own → Prop} (h : DG X ts e d ρ O p) (hi : ∀ ρ O, p ρ O → p' ρ O) : DG X ts e d ρ O p' :=
    dg_of h fun v σ H Q ⟨I, s, n, q⟩ => ⟨I, s, n, fun σ1 J1 H1 ρ1 O1 g1 s1 u1 k => q σ1 J1 H1 ρ1 O1 g1 s1 u1 (hi _ _ k)⟩
end
end AB
namespace AB
open PySem PySem.Spec PyProof.Rows L2
abbrev FnP (K : PySem.W.Frag) (x : Str) (st : Stmt) (f : Addr) (fd : FuncData) : Prop := FunD K x x (defArgs st) (defBody st) (defScope st) [] [] f fd
theorem bindsP {K : PySem.W.Frag} {x : Str} {st : Stmt} {f : Addr} {fd : FuncData} {ps : List Str} (F : FnP K x st f fd)
    (h : ∀ (kV doc pm : Value) (an : Option Addr) (cdv ct : Value) (us : List Value), us.length = ps.length → bindArgs (PySem.W.fnOf x x (defArgs st) (defBody st) (defScope st) .none kV doc pm an cdv ct) ⟨us, []⟩ = pure (ps.zip us)) : Binds K fd ps [] := F.bindsN h
/-- a def that stands: its address, its promise -/
structure Std (P : Program) (w : World) (K : PySem.W.Frag) (mg : Str → Option Value) (base : Heap) (k : Nat) (x : Str) (ps : List Str) (F : FS) : Prop where
  ex : ∃ f fd, mg x = some (.ref f) ∧ PySem.W.keepIn K (.ref f) = true ∧ Binds K fd ps [] ∧ FnOk P w K mg base CX0 k f fd ps (spD P w F)
/-- the built-in names that the text does not bind -/
structure Bn (mg : Str → Option Value) : Prop where
  abs : mg "abs" = none
  isinstance : mg "isinstance" = none
  int : mg "int" = none
  bool : mg "bool" = none
  tuple : mg "tuple" = none
  list : mg "list" = none
  len : mg "len" = none
  range : mg "range" = none
  all : mg "all" = none
  any : mg "any" = none
  zip : mg "zip" = none
  max : mg "max" = none
  min : mg "min" = none
  sorted : mg "sorted" = none
  enumerate : mg "enumerate" = none
  dict : mg "dict" = none
def ixOf (x : Str) : List Str → Nat → Option Nat
  | [], _ => none
  | y :: ys, n => if x = y then some n else ixOf x ys (n + 1)
theorem ixOf_get {x : Str} : ∀ {N : List Str} {n i : Nat}, ixOf x N n = some i → n ≤ i ∧ N[i - n]? = some x
  | [], n, i, h => by cases h
  | y :: ys, n, i, h => by
    unfold ixOf at h
    split at h
    · rename_i e
      cases h
      exact ⟨Nat.le_refl _, by rw [Nat.sub_self]; simp [e]⟩
    · obtain ⟨h1, h2⟩ := ixOf_get h
      refine ⟨by omega, ?_⟩
      rw [show i - n = (i - (n + 1)) + 1 by omega]
      simpa using h2
theorem ixOf_at {x : Str} {N : List Str} {i : Nat} (h : ixOf x N 0 = some i) : N[i]? = some x := by simpa using (ixOf_get h).2
section
variable {X : Cx} {e a b : Expr} {es : List Expr} {ρ : Env'} {O : Own} {pos : Pos}
theorem de_c0 {k j : Nat} {ps : List Str} {F : FS} {x : Str} {p pos : Pos} {post : D → Own → Prop} (G : Std X.prog X.w X.K X.mg X.base k x ps F) (hr : Room j X.A) (hkj : k ≤ j)
    (hg : Gl X x) (hdb : (x == ("__debug__" : Str)) = false) (hst : starEach (e :: es) X.env = (false, eval e X.env) :: starEach es X.env) (hpl : (backTo pos (starEach es X.env)).any (·.1) = false)
    (ha : DA X (e :: es) ρ O fun ds O1 => F ds [] fun d O' => post d (O' ++ O1)) : DE X (.Call (.Name x p) (e :: es) [] pos) ρ O post := by
  obtain ⟨f, fd, hm, hk, hb, FF⟩ := G.ex
  exact de_call0 FF (hr.mono hkj) hm hk hb hg hdb hst hpl ha
theorem de_cO {k j : Nat} {ps : List Str} {F : FS} {x : Str} {p pos : Pos} {post : D → Own → Prop} (G : Std X.prog X.w X.K X.mg X.base k x ps F) (hr : Room j X.A) (hkj : k ≤ j)
    (hg : Gl X x) (hdb : (x == ("__debug__" : Str)) = false) (hst : starEach (e :: es) X.env = (false, eval e X.env) :: starEach es X.env) (hpl : (backTo pos (starEach es X.env)).any (·.1) = false)
    (ha : DA X (e :: es) ρ O fun ds O1 => ∃ Oa Ob, O1.Perm (Oa ++ Ob) ∧ F ds Oa fun d O' => post d (O' ++ Ob)) : DE X (.Call (.Name x p) (e :: es) [] pos) ρ O post := by
  obtain ⟨f, fd, hm, hk, hb, FF⟩ := G.ex
  exact de_call FF (hr.mono hkj) hm hk hb hg hdb hst hpl ha
theorem de_negI {i : Int} {j p2} {post : D → Own → Prop} (k : post (.int (-i)) O) : DE X (.UnaryOp .USub (.Constant (.int i) j p2) pos) ρ O post := de_neg (de_int ⟨_, rfl, k⟩)
theorem de_v {i : Nat} {x : Str} {d : D} {post : D → Own → Prop} (hN : ixOf x X.N 0 = some i) (hv : Vis X.env.scope x) (hd : (x == ("__debug__" : Str)) = false) (hcd : (x == ("__classdict__" : Str)) = false)
    (e : ρ[i]? = some (some d)) (k : post d O) : DE X (.Name x pos) ρ O post := de_var (ixOf_at hN) hv hd hcd e k
theorem ds_st {i : Nat} {x : Str} {pos pos' : Pos} {p : Post} (hN : X.N.Nodup) (hi : ixOf x X.N 0 = some i) (hx : Loc X.env.scope x) (hs : swapsWith e (some (.Name x pos')) pos.line X.env = pure false) (hf : X.fn x = true ∨ X.env.scope.names.lookup x = some .local)
    (h : DE X e ρ O fun d O' => p.nx (ρ.set i (some d)) O') : DS X (.Assign [.Name x pos'] e pos) ρ O p := ds_set hN (ixOf_at hi) hx hs hf h
theorem dg_v {i : Nat} {x : Str} {ts : List Nat} {d : D} {post : Env' → Own → Prop} (hN : X.N.Nodup) (hi : ixOf x X.N 0 = some i) (hx : Loc X.env.scope x) (hf : X.fn x = true ∨ X.env.scope.names.lookup x = some .local) (ht : i ∈ ts)
    (k : post (ρ.set i (some d)) O) : DG X ts (.Name x pos) d ρ O post := dg_nm hN (ixOf_at hi) hx hf ht k
theorem de_ty {x : Str} {T : String} {post : D → Own → Prop} (hg : Gl X x) (hm : X.mg x = none) (hv : bootBuiltins x = some (.type T)) (hn : x ≠ "__name__") (hd : (x == ("__debug__" : Str)) = false) (k : post (.raw (.ty T)) O) : DE X (.Name x pos) ρ O post :=
  de_c (v := .ty T) (d := .raw (.ty T)) (pe_bltn hg hm hv rfl hn hd) (fun _ => rfl) k
end
theorem sz {n : Nat} (h : Nat.ble n 1000 = true) : n ≤ sizeLine := Nat.le_trans (Nat.le_of_ble_eq_true h) (by decide)
theorem iT {a b : Prop} {c : Bool} (h : c = true) (k : a) : if c = true then a else b := by rw [if_pos h]; exact k
theorem iF {a b : Prop} {c : Bool} (h : c = false) (k : b) : if c = true then a else b := by rw [if_neg (by rw [h]; decide)]; exact k
end AB
namespace AB
open PySem PySem.Spec PyProof.Rows L2
section
variable {X : Cx} {scope : Scope} {e a b : Expr} {ρ : Env'} {O Oz O1 : Own} {pos : Pos} {α : Type}
theorem DG.imp {e : Expr} {ts : List Nat} {d : D} {ρ : Env'} {O : Own} {p p' : Env' → Own → Prop} (h : DG X ts e d ρ O p) (hi : ∀ ρ O, p ρ O → p' ρ O) : DG X ts e d ρ O p' :=
  dg_of h fun v σ H Q ⟨I, s, n, q⟩ => ⟨I, s, n, fun σ1 J1 H1 ρ1 O1 g1 s1 u1 k => q σ1 J1 H1 ρ1 O1 g1 s1 u1 (hi _ _ k)⟩
/-- a comprehension that maps a list -/
theorem lcd_mapZ {vs : List Nat} {tg elt : Expr} (xs : List α) (f h : α → D) {fin : List D → Own → Prop} (hz : xs.length ≤ sizeLine) (hO : ∀ q ∈ Oz, q ∈ O1)
    (hb : ∀ x ∈ xs, BG X scope vs tg (f x) (wipeR ρ vs) O1 fun ρ2 O2 => BE X scope elt ρ2 O2 fun dv O3 => dv = h x ∧ O3 = O1) (k : fin (xs.map h) O1) : LcD X scope vs tg elt [] Oz ρ (xs.map f) O1 fin := by
  refine ⟨fun i acc O' => i ≤ xs.length ∧ acc = (xs.take i).map h ∧ O' = O1, ⟨Nat.zero_le _, rfl, rfl⟩, fun i d acc O' hd ⟨h1, h2, h3⟩ => ?_, fun i acc O' ⟨_, _, e⟩ q hq => by rw [e]; exact hO q hq, fun acc O' ⟨h1, h2, h3⟩ => ?_⟩
  · subst h2 h3
    rw [List.getElem?_map] at hd
    cases hx : xs[i]? with
    | none => rw [hx] at hd; cases hd
    | some x =>
      rw [hx] at hd
      cases hd
      obtain ⟨hlt, _⟩ := List.getElem?_eq_some_iff.mp hx
      intro s H C cl fp
      refine (hb x (List.mem_of_getElem? hx) s H C cl fp).imp fun ρ2 O2 z => ?_
      simp only [BTs, if_true]
      intro s H C cl fp
      refine (z s H C cl fp).imp fun dv O3 ⟨e1, e2⟩ => ⟨?_, hlt, ?_, e2⟩
      · simp; omega
      · rw [e1, List.take_add_one, hx]; simp
  · subst h2 h3
    rw [List.length_map, List.take_length]
    exact k
theorem lcd_map {vs : List Nat} {tg elt : Expr} (xs : List α) (f h : α → D) {fin : List D → Own → Prop} (hz : xs.length ≤ sizeLine) (hO : Oz = [])
    (hb : ∀ x ∈ xs, BG X scope vs tg (f x) (wipeR ρ vs) O1 fun ρ2 O2 => BE X scope elt ρ2 O2 fun dv O3 => dv = h x ∧ O3 = O1) (k : fin (xs.map h) O1) : LcD X scope vs tg elt [] Oz ρ (xs.map f) O1 fin :=
  lcd_mapZ xs f h hz (fun q hq => by subst hO; cases hq) hb k
/-- .. and chooses -/
theorem lcd_filterZ {vs : List Nat} {tg elt c : Expr} (xs : List α) (f h : α → D) (p : α → Bool) {fin : List D → Own → Prop} (hz : xs.length ≤ sizeLine) (hO : ∀ q ∈ Oz, q ∈ O1)
    (hb : ∀ x ∈ xs, BG X scope vs tg (f x) (wipeR ρ vs) O1 fun ρ2 O2 => BT X scope c ρ2 O2 fun b O3 => b = p x ∧ if p x = true then BE X scope elt ρ2 O3 fun dv O4 => dv = h x ∧ O4 = O1 else O3 = O1) (k : fin ((xs.filter p).map h) O1) : LcD X scope vs tg elt [c] Oz ρ (xs.map f) O1 fin := by
  refine ⟨fun i acc O' => i ≤ xs.length ∧ acc = ((xs.take i).filter p).map h ∧ O' = O1, ⟨Nat.zero_le _, rfl, rfl⟩, fun i d acc O' hd ⟨h1, h2, h3⟩ => ?_, fun i acc O' ⟨_, _, e⟩ q hq => by rw [e]; exact hO q hq, fun acc O' ⟨h1, h2, h3⟩ => ?_⟩
  · subst h2 h3
    rw [List.getElem?_map] at hd
    cases hx : xs[i]? with
    | none => rw [hx] at hd; cases hd
    | some x =>
      rw [hx] at hd
      cases hd
      obtain ⟨hlt, _⟩ := List.getElem?_eq_some_iff.mp hx
      intro s H C cl fp
      refine (hb x (List.mem_of_getElem? hx) s H C cl fp).imp fun ρ2 O2 z => ?_
      show BT X scope c ρ2 O2 _
      intro s H C cl fp
      refine (z s H C cl fp).imp fun b O3 ⟨e0, z⟩ => ?_
      subst e0
      have hl : ((xs.take i).filter p).length ≤ i := Nat.le_trans (List.length_filter_le _ _) (by simp; omega)
      by_cases hp : p x = true
      · rw [if_pos hp] at z ⊢
        intro s H C cl fp
        refine (z s H C cl fp).imp fun dv O4 ⟨e1, e2⟩ => ⟨?_, hlt, ?_, e2⟩
        · rw [List.length_map]; omega
        · rw [e1, List.take_add_one, hx, List.filter_append]; simp [hp]
      · rw [if_neg hp] at z ⊢
        refine ⟨hlt, ?_, z⟩
        rw [List.take_add_one, hx, List.filter_append]
        simp [hp]
  · subst h2 h3
    rw [List.length_map, List.take_length]
    exact k
theorem lcd_filter {vs : List Nat} {tg elt c : Expr} (xs : List α) (f h : α → D) (p : α → Bool) {fin : List D → Own → Prop} (hz : xs.length ≤ sizeLine) (hO : Oz = [])
    (hb : ∀ x ∈ xs, BG X scope vs tg (f x) (wipeR ρ vs) O1 fun ρ2 O2 => BT X scope c ρ2 O2 fun b O3 => b = p x ∧ if p x = true then BE X scope elt ρ2 O3 fun dv O4 => dv = h x ∧ O4 = O1 else O3 = O1) (k : fin ((xs.filter p).map h) O1) : LcD X scope vs tg elt [c] Oz ρ (xs.map f) O1 fin :=
  lcd_filterZ xs f h p hz (fun q hq => by subst hO; cases hq) hb k
/-- a loop over a list: the invariant by the turn -/
theorem map_get {xs : List α} {f : α → D} {i : Nat} {d : D} (h : (xs.map f)[i]? = some d) : ∃ x, xs[i]? = some x ∧ d = f x := by
  rw [List.getElem?_map] at h
  cases hx : xs[i]? with
  | none => rw [hx] at h; cases h
  | some x => rw [hx] at h; exact ⟨x, rfl, (Option.some.inj h).symm⟩
end
section
variable {X : Cx} {e : Expr} {ρ : Env'} {O : Own}
/-- owned objects forgotten behind a value -/
theorem de_drop {post : D → Own → Prop} (h : DE X e ρ O fun d O' => ∃ O2, (∃ O3, O'.Perm O3 ∧ O2.Sublist O3) ∧ post d O2) : DE X e ρ O post :=
  de_of h fun σ H Q ⟨I, s, q⟩ => ⟨I, s, fun v J H' d O' g s' n ⟨O2, ⟨O3, hp, hs⟩, k⟩ => by
    have o3 := s'.own.perm hp
    have hn : (adr O2).Nodup := (hs.map _).nodup o3.nd
    have g2 : Grow (adr O') (adr O2) J H' J H' := ⟨Ex.refl J, s'.sub, fun _ _ _ h => h, fun _ _ _ _ h => h, fun a ha => .inl ((hp.map _).mem_iff.mpr ((hs.map _).subset ha))⟩
    exact q v J H' d O2 (g.trans g2) (s'.step g2 (o3.sub (fun q hq => hs.subset hq) hn)) n k⟩
end
theorem atI_nat {α : Type} {ds : List α} {n : Nat} {d : α} (h : ds[n]? = some d) : atI ds (n : Int) = some d := by
  obtain ⟨hlt, _⟩ := List.getElem?_eq_some_iff.mp h
  have e : ixN ds.length (n : Int) = some n := by
    unfold ixN
    simp
    omega
  unfold atI
  rw [e]
  exact h
theorem map_at {α β : Type} {f : α → β} {xs : List α} {i : Nat} {x : α} (h : xs[i]? = some x) : (xs.map f)[i]? = some (f x) := by rw [List.getElem?_map, h]; rfl
/-- ratios and rows as data -/
def pD (p : Int × Int) : D := .tup [.int p.1, .int p.2]
abbrev Row := Int × List (Int × Int)
def rowD (r : Row) : D := .tup [.int r.1, .tup (r.2.map pD)]
abbrev WRow := Int × List Int
def wrowD (r : WRow) : D := .tup [.int r.1, .lst (r.2.map D.int)]
def lrowD (r : WRow) : D := .tup [.int r.1, .tup (r.2.map D.int)]
end AB
namespace AB
open PySem PySem.Spec PyProof.Rows L2
section
variable {X : Cx} {e a b : Expr} {es : List Expr} {ρ : Env'} {O Oz : Own} {pos p1 p2 pos2 : Pos}
/-! ### list(range(..)) -/
theorem denl_rg {I : Hp} {lo hi : Int} : DenL I (rngD lo (hi - lo).toNat) (rgV lo hi) := by
  unfold rngD rgV
  have h := DenL.of_ints (H := I) ((List.range (hi - lo).toNat).map fun i => lo + (i : Nat))
  rw [List.map_map, List.map_map] at h
  exact h
theorem de_listRg1 {post : D → Own → Prop} (hg : Gl X "list") (hm : X.mg "list" = none) (hg2 : Gl X "range") (hm2 : X.mg "range" = none)
    (na : starEach [a] X.env = (false, eval a X.env) :: starEach [] X.env) (ne : starEach [.Call (.Name "range" p2) [a] [] pos2] X.env = (false, eval (.Call (.Name "range" p2) [a] [] pos2) X.env) :: starEach [] X.env)
    (hc : X.calm = true) (h : DE X a ρ O fun d O' => ∃ n : Int, d = .int n ∧ 0 ≤ n ∧ n ≤ 16777216 ∧ post (.lst (rngD 0 n.toNat)) O') : DE X (.Call (.Name "list" p1) [.Call (.Name "range" p2) [a] [] pos2] [] pos) ρ O post :=
  de_of (pe_listRg hc hg hm (prg_1 hg2 hm2 any_e na) ne) fun σ H Q ⟨I, s, q⟩ => ⟨ρ, O, _, h, I, s, fun v J H1 d O1 g s1 n z => by
    obtain ⟨k, rfl, h0, h1, z⟩ := z
    refine ⟨k, n, RgOk.of_le (by omega) h1 (by omega) h0, fun p hp => ?_⟩
    obtain ⟨g2, s2⟩ := stt_imm (o := .lst (rgV 0 k)) s1 hp
    refine q (.ref p) _ _ (.lst (rngD 0 k.toNat)) O1 (g.trans g2) s2 ⟨p, _, rfl, upd_same, ?_⟩ z
    have hh := denl_rg (I := upd J p (.lst (rgV 0 k))) (lo := 0) (hi := k)
    rw [Int.sub_zero] at hh
    exact hh⟩
theorem de_listRg2 {post : D → Own → Prop} (hg : Gl X "list") (hm : X.mg "list" = none) (hg2 : Gl X "range") (hm2 : X.mg "range" = none)
    (na : starEach [a, b] X.env = (false, eval a X.env) :: starEach [b] X.env) (nb : starEach [b] X.env = (false, eval b X.env) :: starEach [] X.env) (hpl : (backTo pos2 (starEach [b] X.env)).any (·.1) = false)
    (ne : starEach [.Call (.Name "range" p2) [a, b] [] pos2] X.env = (false, eval (.Call (.Name "range" p2) [a, b] [] pos2) X.env) :: starEach [] X.env)
    (hc : X.calm = true) (h : DE X a ρ O fun d1 O1 => DE X b ρ O1 fun d2 O2 => ∃ i j : Int, d1 = .int i ∧ d2 = .int j ∧ RgOk i j ∧ post (.lst (rngD i (j - i).toNat)) O2) : DE X (.Call (.Name "list" p1) [.Call (.Name "range" p2) [a, b] [] pos2] [] pos) ρ O post :=
  de_of (pe_listRg hc hg hm (prg_2 hg2 hm2 any_e any_e na nb hpl) ne) fun σ H Q ⟨I, s, q⟩ => ⟨ρ, O, _, h, I, s, fun v1 J1 H1 d1 O1 g1 s1 n1 h1 => ⟨ρ, O1, _, h1, J1, s1, fun v2 J2 H2 d2 O2 g2 s2 n2 z => by
    obtain ⟨i, j, rfl, rfl, ok, z⟩ := z
    refine ⟨i, j, n1, n2, ok, fun p hp => ?_⟩
    obtain ⟨g3, s3⟩ := stt_imm (o := .lst (rgV i j)) s2 hp
    exact q (.ref p) _ _ (.lst (rngD i (j - i).toNat)) O2 ((g1.trans g2).trans g3) s3 ⟨p, _, rfl, upd_same, denl_rg⟩ z⟩⟩
/-! ### list of a dict -/
abbrev rListDK : List V → Hp → VK → Prop := fun xs H Q => ∃ (a : Addr) (kvs : List (Key × V)), xs = [.ref a] ∧ Rd H a (.dK kvs) ∧ ∀ p, H p = none → Q (.ref p) (upd H p (.lst (kvs.map fun kv => kV kv.1)))
theorem denl_keys {I : Hp} : ∀ (ks : List Key), DenL I (ks.map keyD) (ks.map kV)
  | [] => rfl
  | k :: ks => ⟨_, _, rfl, by cases k <;> exact rfl, denl_keys ks⟩
theorem rc_listDK {P : Program} {w : World} {d : D} {ks : List Key} {ds : List D} {post : D → Own → Prop} (h : DkD d O ks ds) (k : post (.lst (ks.map keyD)) O) : RC P w rListDK [d] O post := by
  intro I H vs e ow n Q c
  obtain ⟨v, rfl, n1⟩ := den1 n
  obtain ⟨a, xs, rfl, ha, hl, l⟩ := dkd_at e ow n1 h
  refine ⟨a, ks.zip xs, rfl, .inl ha, fun p hp => ?_⟩
  have ek : ((ks.zip xs).map fun kv => kV kv.1) = ks.map kV := by
    have : ((ks.zip xs).map fun kv => kV kv.1) = ((ks.zip xs).map (·.1)).map kV := by rw [List.map_map]; rfl
    rw [this, List.map_fst_zip (by omega)]
  obtain ⟨g, s⟩ := stt_imm (P := P) (w := w) (ρ := []) (σ := []) (o := .lst ((ks.zip xs).map fun kv => kV kv.1)) ⟨e, rfl, fun i d q => by simp at q, ow⟩ hp
  exact c (.ref p) _ _ (.lst (ks.map keyD)) O g s.own ⟨p, _, rfl, upd_same, by rw [ek]; exact denl_keys ks⟩ k
def rListN (P : Program) (w : World) : List V → Hp → VK → Prop := fun xs H Q => ∃ p zs, xs = [V.ref p] ∧ ND P w H p zs ∧ zs.length ≤ sizeLine ∧ ∀ q, H q = none → Q (.ref q) (upd H q (.lst (zs.map fun x => V.ref x.2.1)))
theorem entry_of {P : Program} {w : World} {es : Array DictEntry} {xs : List (NestedKey × Addr × Value)} (he : es.toList = xs.map (entryOfKey (nestedKind P w))) (j : Nat) : es[j]? = (xs[j]?).map (entryOfKey (nestedKind P w)) := by
  rw [← Array.getElem?_toList, he, List.getElem?_map]
theorem call_listN (hc : X.calm = true) : CallR X (.type "list") (rListN X.prog X.w) := by
  intro pins s σ H xs us Q I r h
  obtain ⟨p, zs, rfl, d, hz, q⟩ := h
  obtain ⟨u, rfl, rx⟩ := r.one
  cases rx
  obtain ⟨⟨o, es, ep, ho, hx, hdt, he, hs⟩, _⟩ := d.at_.ok I.hok
  have l1 : es.size = zs.length := by rw [← Array.length_toList, he, List.length_map]
  refine PySem.W.kdl_call (kdl_raw hs hx hdt) (I.ok.hd hc) ho (by omega) fun h' tk acc' c' kp e it => ?_
  have ea : acc'.toList = (zs.map fun x => x.2.1).map Value.ref := by
    have hl : acc'.toList.length = zs.length := by rw [Array.length_toList, it.1]; exact l1
    rw [List.map_map]
    apply List.ext_getElem?
    intro j
    rw [List.getElem?_map]
    by_cases hj : j < zs.length
    · have hv : acc'.toList[j]? = some (acc'.toList[j]'(by omega)) := List.getElem?_eq_getElem (by omega)
      obtain ⟨en, hen, ev⟩ := it.2 j _ (by rw [← Array.getElem?_toList]; exact hv)
      rw [hv, ev]
      rw [entry_of he j, List.getElem?_eq_getElem hj] at hen
      rw [List.getElem?_eq_getElem hj]
      cases hen
      rfl
    · rw [List.getElem?_eq_none (by omega), List.getElem?_eq_none (by omega)]
      rfl
  have rv : Vals (zs.map fun x => V.ref x.2.1) acc'.toList := by
    have e2 : (zs.map fun x => V.ref x.2.1) = (zs.map fun x => x.2.1).map V.ref := by rw [List.map_map]; rfl
    rw [ea, e2]
    exact vals_refs _
  refine ⟨.ref s.heap.objs.size, _, I.laid (t' := tk) (o := .lst (zs.map fun x => V.ref x.2.1)) kp (Nat.le_refl _) ?_, rfl, q _ (I.hok.fresh (Nat.le_refl _))⟩
  exact ⟨by rw [List.length_map]; exact hz, acc'.toList, c', rv, by rw [Array.toArray_toList]; exact e⟩
theorem denl_nkeys {I : Hp} : ∀ {xs : List (NestedKey × Addr × Value)}, (∀ x ∈ xs, Den I (kD x.1) (.ref x.2.1)) → DenL I ((xs.map (·.1)).map kD) (xs.map fun x => V.ref x.2.1)
  | [], _ => rfl
  | x :: xs, h => ⟨_, _, rfl, h x List.mem_cons_self, denl_nkeys fun y hy => h y (List.mem_cons_of_mem _ hy)⟩
/-- what an owned dict with nested keys says of its entries, by the immutable part -/
theorem dnd_all {P : Program} {w : World} {I H : Hp} {d : D} {v : V} {ks : List NestedKey} {ds : List D} (e : Ex I H) (o : Owns P w I H O) (n : Den I d v) (h : DnD d O ks ds) :
    ∃ p xs vs, v = .ref p ∧ ND P w H p xs ∧ xs.map (·.1) = ks ∧ Vals vs (xs.map (·.2.2)) ∧ DenL I ds vs ∧ (∀ x ∈ xs, Den I (kD x.1) (.ref x.2.1)) ∧ ks.length ≤ sizeLine ∧ (∀ k ∈ ks, ∃ l, k = .tup l) := by
  obtain ⟨p, rfl, i, hi⟩ := h
  rcases hi with hi | ⟨od, u, hi⟩
  · obtain ⟨_, ⟨⟨xs, vs, h1, h2, h3, h4, h5⟩, nd, dp, tp, sz⟩⟩ := o.own _ (List.mem_of_getElem? hi)
    exact ⟨p, xs, vs, n, ⟨.inl h1, by rw [h2]; exact nd, fun x hx => ⟨Den.mono e _ (h5 x hx), dp _ (h2 ▸ List.mem_map.mpr ⟨x, hx, rfl⟩)⟩⟩, h2, h3, h4, h5, sz, tp⟩
  · obtain ⟨_, h0, ⟨⟨xs, vs, h1, h2, h3, h4, h5⟩, nd, dp, tp, sz⟩⟩ := o.own _ (List.mem_of_getElem? hi)
    have h1 : u = .ext (rawD P w p xs) := Option.some.inj h1
    subst h1
    exact ⟨p, xs, vs, n, ⟨.inr ⟨od, h0⟩, by rw [h2]; exact nd, fun x hx => ⟨Den.mono e _ (h5 x hx), dp _ (h2 ▸ List.mem_map.mpr ⟨x, hx, rfl⟩)⟩⟩, h2, h3, h4, h5, sz, tp⟩
theorem rc_listN {P : Program} {w : World} {d : D} {ks : List NestedKey} {ds : List D} {post : D → Own → Prop} (h : DnD d O ks ds) (k : post (.lst (ks.map kD)) O) : RC P w (rListN P w) [d] O post := by
  intro I H vs e ow n Q c
  obtain ⟨v, rfl, n1⟩ := den1 n
  obtain ⟨p, xs, us, rfl, nd, rfl, rv, l, hk, sz, tp⟩ := dnd_all e ow n1 h
  refine ⟨p, xs, rfl, nd, by simpa using sz, fun q hq => ?_⟩
  obtain ⟨g, s⟩ := stt_imm (P := P) (w := w) (ρ := []) (σ := []) (o := .lst (xs.map fun x => V.ref x.2.1)) ⟨e, rfl, fun i d q => by simp at q, ow⟩ hq
  exact c (.ref q) _ _ (.lst ((xs.map (·.1)).map kD)) O g s.own ⟨q, _, rfl, upd_same, denl_nkeys fun x hx => Den.mono g.up _ (hk x hx)⟩ k
/-! ### dict(d) -/
abbrev rDictD : List V → Hp → VK → Prop := fun xs H Q => ∃ (a : Addr) (kvs : List (Key × V)), xs = [.ref a] ∧ Rd H a (.dK kvs) ∧ ∀ p, H p = none → Q (.ref p) (upd H p (.dK kvs))
theorem rc_dictO {P : Program} {w : World} {d : D} {ks : List Key} {ds : List D} {post : D → Own → Prop} (h : DkD d O ks ds) (k : ∀ p, post (.raw (.ref p)) ((p, .dK ks ds) :: O)) : RC P w rDictD [d] O post := by
  intro I H vs e ow n Q c
  obtain ⟨v, rfl, n1⟩ := den1 n
  obtain ⟨a, xs, rfl, ha, hl, l⟩ := dkd_at e ow n1 h
  refine ⟨a, ks.zip xs, rfl, .inl ha, fun p hp => ?_⟩
  obtain ⟨g, s⟩ := stt_new (P := P) (w := w) (ρ := []) (σ := []) (o := .dK (ks.zip xs)) (m := .dK ks ds) ⟨e, rfl, fun i d q => by simp at q, ow⟩ hp ⟨xs, upd_same, hl, l⟩
  exact c (.ref p) _ _ (.raw (.ref p)) _ g s.own rfl (k p)
/-! ### a lock -/
theorem de_lock {i : Nat} {p : Addr} {ks : List NestedKey} {ds : List D} {post : D → Own → Prop} (hi : O[i]? = some (p, .dN ks ds))
    (h : ∀ od u, DE X e ρ (O.set i (p, .dNz od u ks ds)) fun d O' => ∃ j, O'[j]? = some (p, .dNz od u ks ds) ∧ post d (O'.set j (p, .dN ks ds))) : DE X e ρ O post :=
  de_of (pe_lock any_e) fun σ H Q ⟨I, s, q⟩ => by
    obtain ⟨hI, ⟨⟨xs, vs, h1, h2, h3, h4, h5⟩, nd, dp, tp, sz⟩⟩ := s.own.own _ (List.mem_of_getElem? hi)
    have h1 : H p = some (.ext (rawD X.prog X.w p xs)) := h1
    refine ⟨p, _, h1, True.intro, fun od => ?_⟩
    obtain ⟨g, s'⟩ := stt_write (o := .frz od (.ext (rawD X.prog X.w p xs))) (m' := .dNz od (.ext (rawD X.prog X.w p xs)) ks ds) s hi ⟨upd_same, ⟨⟨xs, vs, rfl, h2, h3, h4, h5⟩, nd, dp, tp, sz⟩⟩
    refine ⟨ρ, _, _, h od _, I, s', fun v J H2 d O2 g2 s2 n2 z => ?_⟩
    obtain ⟨j, hj, z⟩ := z
    obtain ⟨hJ, hf, hN⟩ := s2.own.own _ (List.mem_of_getElem? hj)
    refine ⟨hf, ?_⟩
    obtain ⟨⟨ys, us, k1, k2, k3, k4, k5⟩, nd2, dp2, tp2, sz2⟩ := hN
    obtain ⟨g3, s3⟩ := stt_write (o := .ext (rawD X.prog X.w p xs)) (m' := .dN ks ds) s2 hj (show DNok X.prog X.w J _ p id ks ds from ⟨⟨ys, us, by rw [upd_same]; exact k1, k2, k3, k4, k5⟩, nd2, dp2, tp2, sz2⟩)
    exact q v J _ d _ ((g.trans g2).trans g3) s3 n2 z
/-- the keys of the locked dict at d, in their order -/
def Itkn (P : Program) (w : World) (d : Addr) (od : Obj) (xs : List (NestedKey × Addr × Value)) : It :=
  ⟨fun i H => H d = some (.frz od (.ext (rawD P w d xs))) ∧ i < xs.length, fun i H v H' => H' = H ∧ ∃ x, xs[i]? = some x ∧ v = .ref x.2.1, fun i H => H d = some (.frz od (.ext (rawD P w d xs))) ∧ xs.length ≤ i⟩
theorem frzN {pins : List (Addr × Obj)} {σ : L2.St} {H : Hp} {s : Shared} {d : Addr} {od : Obj} {xs : List (NestedKey × Addr × Value)} (I : Inv X pins σ H s) (h : H d = some (.frz od (.ext (rawD X.prog X.w d xs)))) :
    ∃ es ep, s.heap.get? d = some od ∧ od.ExactDict ∧ od.data = .dict es ep ∧ es.toList = xs.map (entryOfKey (nestedKind X.prog X.w)) ∧ (d == sysModules) = false ∧ es.size = xs.length := by
  obtain ⟨hd, ⟨o, es, ep, h1, h2, h3, h4, h5⟩, _⟩ := I.hok d _ h
  rw [hd] at h1
  cases h1
  exact ⟨es, ep, hd, h2, h3, h4, h5, by rw [← Array.length_toList, h4, List.length_map]⟩
theorem turn_keysN {P : Program} {w : World} {K : PySem.W.Frag} {tg : Expr} {d : Addr} {od : Obj} {xs : List (NestedKey × Addr × Value)} {es : Array DictEntry} {ep : Nat} (it : Addr) (hod : od.data = .dict es ep) :
    Turn P w K tg (Itkn P w d od xs) [it] it (fun i h => h.IsKeyIter it d i xs.length ep) where
  mem := List.mem_singleton.mpr rfl
  obj := fun i h st b hb => by
    obtain rfl : b = it := List.mem_singleton.mp hb
    obtain ⟨oi, e, c, dd⟩ := st
    exact ⟨oi, e, fun v z => by rw [dd] at z; cases z⟩
  keep := fun i h h' st k => st.at fun oi e => k it (List.mem_singleton.mpr rfl) oi e
  item := by
    intro X hP hw hK hc i pins s σ H E I hf st ⟨hd, hi⟩
    subst hP hw hK
    obtain ⟨f0, f1, f2, f3, f4, f5⟩ := hf it (List.mem_singleton.mpr rfl)
    obtain ⟨es', ep', hgd, hx, hdt, hes, hs, hsz⟩ := frzN I hd
    obtain ⟨rfl, rfl⟩ := dict_ep hod hdt
    have hxi : xs[i]? = some xs[i] := List.getElem?_eq_getElem hi
    have hen : es'[i]? = some (entryOfKey (nestedKind X.prog X.w) xs[i]) := by rw [entry_of hes i, hxi]; rfl
    refine next_key_item st hgd hdt hsz hen fun h' st' sb => ?_
    have J : Inv X pins σ H { s with heap := h' } := I.turned (t' := s.toks) (fun b ob hb e => (sb.2 b hb).trans e) f0 f1 f3 f4 f5
    obtain ⟨oi, e, c, dd⟩ := id st'
    exact ⟨_, rfl, go_of (s := { s with heap := h' }) e c dd (by decide) ⟨.ref xs[i].2.1, H, J, rfl, ⟨rfl, _, hxi, rfl⟩, st', fun b hb => (hf b hb).1⟩⟩
  done := by
    intro X hP hw hK hc i pins s σ H E I hf st ⟨hd, hi⟩
    subst hP hw hK
    obtain ⟨f0, f1, f2, f3, f4, f5⟩ := hf it (List.mem_singleton.mpr rfl)
    obtain ⟨es', ep', hgd, hx, hdt, hes, hs, hsz⟩ := frzN I hd
    obtain ⟨rfl, rfl⟩ := dict_ep hod hdt
    exact next_key_end (I.ok.hd hc) st hgd hdt hsz hi fun h' eb => ⟨rfl, I.turned (t' := s.toks) (fun b ob hb e => eb b ob hb e) f0 f1 f3 f4 f5⟩
  self := fun A i s Q E st h => wpAny_pyIter_keyiter st h
def iKeysN (P : Program) (w : World) (td : TE) : TI := fun σ H R => td σ H fun x H1 => ∃ d od xs, x = .ref d ∧ H1 d = some (.frz od (.ext (rawD P w d xs))) ∧ R (Itkn P w d od xs) H1
theorem pi_keysN {tg : Expr} {td : TE} (he : PE X e td) : PI X tg e (iKeysN X.prog X.w td) := by
  refine ⟨fun pins s σ H R I h => ?_⟩
  refine thn (he.run pins s σ H _ I h) fun u s1 ⟨x, H1, I1, rx, d, od, xs, ex, hd, q⟩ => ?_
  subst ex
  obtain rfl : u = Value.ref d := rx
  obtain ⟨es', ep', hgd, hx, hdt, hes, hs, hsz⟩ := frzN I1 hd
  refine iter_keys hs hgd hx hdt (pi_one (tk := s1.toks) I1 _ (turn_keysN _ hdt) ⟨_, Heap.get?_push_size _ rfl, rfl, ?_⟩ q)
  rw [hsz] <;> rfl
theorem di_keysN {tg : Expr} {p : Addr} {od : Obj} {u : HO} {ks : List NestedKey} {ds : List D} {k : List D → Own → Prop}
    (h : DE X e ρ O fun d O1 => d = .raw (.ref p) ∧ (p, .dNz od u ks ds) ∈ O1 ∧ k (ks.map kD) O1) : DI X tg e [(p, .dNz od u ks ds)] ρ O k :=
  di_of (pi_keysN any_e) fun σ H R ⟨I, s, q⟩ => ⟨ρ, O, _, h, I, s, fun v J H1 d O1 g s1 n z => by
    obtain ⟨rfl, hm, z⟩ := z
    obtain ⟨hI, hf, ⟨⟨xs, vs, h1, h2, h3, h4, h5⟩, nd, dp, tp, sz⟩⟩ := s1.own.own _ hm
    have h1 : u = .ext (rawD X.prog X.w p xs) := Option.some.inj h1
    subst h1 h2
    refine ⟨p, od, xs, n, hf, q _ J H1 _ O1 g s1 ?_ z⟩
    intro I1 H2 O2 e1 e2 ow hz
    obtain ⟨_, hf2, _⟩ := ow.own _ (hz _ List.mem_cons_self)
    refine ⟨fun i hi => ⟨hf2, by simpa using hi⟩, ⟨hf2, by simp⟩, fun i x H' d hd y => ?_⟩
    obtain ⟨rfl, x0, hx0, rfl⟩ := y
    rw [List.map_map, List.getElem?_map, hx0] at hd
    cases hd
    exact ⟨I1, Grow.refl e2, Den.mono e1 _ (h5 _ (List.mem_of_getElem? hx0))⟩⟩
end
end AB
namespace AB
open PySem PySem.Spec PyProof.Rows L2
/-- d[k] = v by a comprehension, keys nested -/
theorem d_dictSetN {X : Cx} {pins : List (Addr × Obj)} {σ : L2.St} {H : Hp} {s : Shared} {E : Value → Shared → Prop} {D a : Addr} {xs : List (NestedKey × Addr × Value)} {k : NestedKey} {r : Value} {Q : Unit → Shared → Prop} (hu : X.A.units + 9 < cLine) (I : Inv X pins σ H s)
    (hD : H D = some (.ext (rawD X.prog X.w D xs))) (d : ND X.prog X.w H D xs) (dk : Den H (kD k) (.ref a)) (dp : k.depth ≤ 8) (hz : xs.length ≤ sizeLine)
    (h : ∀ s', Inv X pins σ (upd H D (.ext (rawD X.prog X.w D (storedH xs k a r)))) s' → Q () s') : wpAny (model X.prog X.w) X.A (dictSet D (.ref a) r) Q E s := by
  obtain ⟨dd, hs⟩ := d.dict I.hok
  refine wpAny_dictSet_heap (knd := nestedKind X.prog X.w) (k := k) (hsz := hz) (show X.A.units + 8 < cLine by omega) ⟨den_key I.hok k dk rfl, dp⟩ dd (fun h' dd' hsb => h _ ?_)
  have he : ∃ q, h'.get? D = some q := let ⟨q, _, _, hq, _⟩ := dd'; ⟨q, hq⟩
  exact d_write I (by rw [hD]; exact True.intro) hsb he (rawD_ok dd' hs)
section
variable {X : Cx}
/-- {k: v for target in iter if ..}, keys nested: D the new dict -/
def tDcN (X : Cx) (wi : TI) (g : TG) (tt : TT) (tk tv : TE) (vs : List Nat) : TE := fun σ H Q => wi σ H fun J H1 => ∀ D, H1 D = none → ∃ W : Nat → Nat → Hp → Prop, (∃ m, W 0 m (upd H1 D (.ext (rawD X.prog X.w D [])))) ∧ ∀ i m H, W i m H →
  (J.stop i H ∧ Q (.ref D) H) ∨ (J.go i H ∧ ∃ Nx : Hp → Prop, (∀ H', Nx H' → ∃ m', m' < m ∧ W (i + 1) m' H') ∧ ∀ x H', J.yld i H x H' → g x (wipe σ vs) H' fun σ2 H2 => wipe σ2 vs = wipe σ vs ∧ tt σ2 H2 fun b H3 =>
    if b = true then tk σ2 H3 fun y H4 => tv σ2 H4 fun z H5 => ∃ xs a k, y = .ref a ∧ H5 D = some (.ext (rawD X.prog X.w D xs)) ∧ ND X.prog X.w H5 D xs ∧ Den H5 (kD k) (.ref a) ∧ k.depth ≤ 8 ∧ xs.length ≤ sizeLine ∧
      ∀ u, RelV z u → Nx (upd H5 D (.ext (rawD X.prog X.w D (storedH xs k a u)))) else Nx H3)
theorem dcN_core {pins : List (Addr × Obj)} {s : Shared} {σ : L2.St} {H : Hp} {Q : VK} {kx vx tg iter : Expr} {ifs : List Expr} {scope : Scope} {own : List (Str × Nat)} {pos pos' : Pos} {wi : TI} {g : TG} {tt : TT} {tk tv : TE} {use : Option (Value → Sem Unit)} {Qf : Value → Shared → Prop}
    (hu : X.A.units + 9 < cLine) (hc : X.calm = true) (hN : X.N.Nodup) (I : Inv X pins σ H s) (hi : PI X tg iter wi) (ok : BlkOk X.N X.env.scope scope own)
    (hg : ∀ (s : Shared) (H : Hp) (C : Addr) (cl : List (Str × Addr)) (fp : List Addr), PG (X.blk s H scope (compEnvC scope cl C X.env) fp) tg g) (ht : ∀ (s : Shared) (H : Hp) (C : Addr) (cl : List (Str × Addr)) (fp : List Addr), PTs (X.blk s H scope (compEnvC scope cl C X.env) fp) ifs tt)
    (hk : ∀ (s : Shared) (H : Hp) (C : Addr) (cl : List (Str × Addr)) (fp : List Addr), PE (X.blk s H scope (compEnvC scope cl C X.env) fp) kx tk)
    (he : ∀ (s : Shared) (H : Hp) (C : Addr) (cl : List (Str × Addr)) (fp : List Addr), PE (X.blk s H scope (compEnvC scope cl C X.env) fp) vx tv) (hs : ∀ x, foldedSetIterable iter X.env x = pure x)
    (h : tDcN X wi g tt tk tv (own.map (·.2)) σ H Q)
    (hEnd : ∀ D C s' m H', Inv X pins σ H' s' → Q (.ref D) H' → s'.heap.Ns C m → FpOk X pins H' C → compPost (model X.prog X.w) X.A X.xe use Qf (.ref D) C (.ok .next) s') :
    wpAny (model X.prog X.w) X.A (comprehension (.DictComp kx vx [⟨tg, iter, ifs, 0⟩] scope pos) scope X.env pos' newDict false (eval iter X.env) use) Qf X.xe s := by
  have hfr : ∀ y ∈ scope.names, y.2 = .free → ∃ c, X.env.cells.lookup y.1 = some c := fun y hy e => by
    rcases ok.free y hy e with k | k
    · exact I.ok.has _ (.inl k)
    · exact I.ok.has _ (.inr k)
  refine wpAny_comprehension_free (use := use) rfl hs (closure_ok hfr) ok.kind (fun y hy e => by rw [ok.uniq y hy, e])
    (thn (hi.run pins s σ H _ I h) fun xv sa hx => thn hx fun itv sb eb2 => ?_)
  obtain ⟨it, fp, tn, J, Hb, e, Jb, T, tb, fb, q⟩ := eb2
  subst e
  refine wpAny_newObj_type (newEnv_comp ?_)
  generalize eD : sb.heap.objs.size = D
  have eDn : Hb D = none := Jb.hok.fresh (Nat.le_of_eq eD)
  obtain ⟨W, ⟨m0, wz⟩, trn⟩ := q D eDn
  -- the new list
  generalize esc : ({ sb with heap := sb.heap.push { cls := .type "dict", data := .dict #[] } } : Shared) = sc
  have Jc : Inv X pins σ (upd Hb D (.ext (rawD X.prog X.w D []))) sc := by
    rw [← esc]
    refine Jb.laid (t' := sb.toks) (fun b o e => Heap.get?_push_of_some _ e) (Nat.le_of_eq eD) ?_
    rw [← eD]
    exact rawD_ok (Heap.DictOfH.new sb.heap) (beq_eq_false_iff_ne.mpr (Ne.symm (Nat.ne_of_lt Jb.big)))
  have eh3 : sc.heap = sb.heap.push { cls := .type "dict", data := .dict #[] } := by rw [← esc]
  have szf : ∀ b ∈ fp, b < sb.heap.objs.size := fun b hb => by
    obtain ⟨o, e, _⟩ := T.obj _ _ tb b hb
    exact Heap.lt_size e
  have fc : ∀ b ∈ fp, FpOk X pins (upd Hb D (.ext (rawD X.prog X.w D []))) b ∧ b < sc.heap.objs.size := fun b hb => by
    have hlt := szf b hb
    refine ⟨⟨?_, (fb b hb).2⟩, by rw [eh3, Heap.size_push]; exact Nat.lt_succ_of_lt hlt⟩
    rw [upd_ne (by rw [← eD]; exact Nat.ne_of_lt hlt)]
    exact (fb b hb).1
  have tc : tn 0 sc.heap := T.keep _ _ _ tb fun b _ o e => by rw [eh3]; exact Heap.get?_push_of_some _ e
  have Jd := block_start Jc ok hN fc
  have qg := hg sc (upd Hb D (.ext (rawD X.prog X.w D []))) sc.heap.objs.size (cellsFrom (sc.heap.objs.size + 1) scope.names (cloFrom X.env.cells scope.names [])) fp
  have qt := ht sc (upd Hb D (.ext (rawD X.prog X.w D []))) sc.heap.objs.size (cellsFrom (sc.heap.objs.size + 1) scope.names (cloFrom X.env.cells scope.names [])) fp
  have qk := hk sc (upd Hb D (.ext (rawD X.prog X.w D []))) sc.heap.objs.size (cellsFrom (sc.heap.objs.size + 1) scope.names (cloFrom X.env.cells scope.names [])) fp
  have qe := he sc (upd Hb D (.ext (rawD X.prog X.w D []))) sc.heap.objs.size (cellsFrom (sc.heap.objs.size + 1) scope.names (cloFrom X.env.cells scope.names [])) fp
  show codeAny _ _ (.compStart (.DictComp kx vx [⟨tg, iter, ifs, 0⟩] scope pos) 0 (.ref it) (.ref D) (compEnvC scope (cellsFrom (sc.heap.objs.size + 1) scope.names (cloFrom X.env.cells scope.names [])) sc.heap.objs.size X.env)) (compPost (model X.prog X.w) X.A X.xe use Qf (.ref D) sc.heap.objs.size) { sc with heap := pushCells (sc.heap.push { cls := .type "dict", data := .dict #[] }) scope.names }
  have off : ∀ b ∈ fp, (upd Hb D (.ext (rawD X.prog X.w D []))) b = none := fun b hb => (fc b hb).1.1
  generalize hcv : compEnvC scope (cellsFrom (sc.heap.objs.size + 1) scope.names (cloFrom X.env.cells scope.names [])) sc.heap.objs.size X.env = cv at Jd qg qt qk qe ⊢
  have cvL : cv.locals = sc.heap.objs.size := by subst hcv; rfl
  generalize eHc : upd Hb D (.ext (rawD X.prog X.w D [])) = Hc at Jc Jd qg qt qk qe wz off fc
  generalize esd : ({ sc with heap := pushCells (sc.heap.push { cls := .type "dict", data := .dict #[] }) scope.names } : Shared) = sd at Jd ⊢
  have td4 : tn 0 sd.heap := T.keep _ _ _ tc fun b _ o e => by rw [← esd]; exact pushCells_keeps _ _ _ _ (Heap.get?_push_of_some _ e)
  have stay : ∀ {σ' : L2.St} {H' : Hp} {s' : Shared}, Inv (X.blk sc Hc scope cv fp) [] σ' H' s' → (∀ b ∈ fp, H' b = none) → ∀ b ∈ fp, FpOk (X.blk sc Hc scope cv fp) [] H' b := fun {σ' H' s'} Iq hn b hb =>
    ⟨hn b hb, (Iq.ok.exf b hb).1, Iq.ok.exfs b hb, .inl hb, fun x c e => (Iq.ok.exf b hb).2 x c e, fun p hp => absurd (show p ∈ ([] : List (Addr × Obj)) ++ [] from hp) (by simp)⟩
  have lp : codeAny (model X.prog X.w) X.A (.compLoop (.DictComp kx vx [⟨tg, iter, ifs, 0⟩] scope pos) 0 (.ref it) (.ref D) cv) (compPost (model X.prog X.w) X.A X.xe use Qf (.ref D) sc.heap.objs.size) sd := by
    refine compLoop_anyD (fun n s' => ∃ i H', Inv (X.blk sc Hc scope cv fp) [] (wipe σ (own.map (·.2))) H' s' ∧ tn i s'.heap ∧ (∀ b ∈ fp, H' b = none) ∧ W i n H') ?_ m0 ⟨0, Hc, Jd, td4, off, wz⟩
    rintro n se ⟨i, He, Je, te5, ne, we⟩
    rcases trn i n He we with ⟨stop, qz⟩ | ⟨go, Nx, hNx, stp⟩
    · have tdn := T.done (X.blk sc Hc scope cv fp) rfl rfl rfl hc i [] se _ He (fun _ _ => False) Je (stay Je ne) te5 stop
      refine thnF tdn fun r sf ⟨hr, Jf⟩ => ?_
      subst hr
      -- back in the def's context
      have Jg : Inv X pins σ He sf := Jc.call' (ch := fp) Jf.os Jf.base Jf.hok Jf.bare fun b hb => ⟨(fc b hb).1.2.2.2.1, (fc b hb).1.2.1, (fc b hb).1.2.2.2.2.1, (fc b hb).1.2.2.2.2.2⟩
      have nC : He sc.heap.objs.size = none := by
        have z : He cv.locals = none := Jf.free
        rw [cvL] at z
        exact z
      obtain ⟨m, hn, _⟩ := Jf.loc
      have hn : sf.heap.Ns cv.locals m := hn
      rw [cvL] at hn
      exact hEnd D sc.heap.objs.size sf m He Jg qz hn (Jc.fpOk (Nat.le_refl _) nC)
    · have tit := T.item (X.blk sc Hc scope cv fp) rfl rfl rfl hc i [] se _ He (fun _ _ => False) Je (stay Je ne) te5 go
      refine thnF tit fun r sf ⟨u, hr, ef6⟩ => ?_
      subst hr
      refine thnF ef6 fun _ sg ⟨x, Hg, Jg, r7, y7, tg7, ng⟩ => ?_
      have Jg' := Jg.pinned (stay Jg ng) (T.obj _ _ tg7)
      refine thnF (qg.run _ sg _ Hg x u _ Jg' r7 (stp x Hg y7)) fun _ sh ⟨σ8, Hh, Jh, hwh, qh⟩ => ?_
      refine thnF (qt.run _ sh σ8 Hh _ Jh qh) fun b si ⟨Hi, Ji, qi⟩ => ?_
      -- the trn's end
      have goal : ∀ {s' : Shared} {H' : Hp}, Inv (X.blk sc Hc scope cv fp) ([] ++ pinsAt fp sg.heap) σ8 H' s' → Nx H' → ∃ m, m < n ∧ ∃ i H', Inv (X.blk sc Hc scope cv fp) [] (wipe σ (own.map (·.2))) H' s' ∧ tn i s'.heap ∧ (∀ b ∈ fp, H' b = none) ∧ W i m H' := fun {s' H'} Iq nx => by
        obtain ⟨mq, hm, wq⟩ := hNx H' nx
        have pinq : ∀ b ∈ fp, ∀ o, sg.heap.get? b = some o → s'.heap.get? b = some o ∧ H' b = none := fun b hb o e =>
          let z := Iq.pin (b, o) (List.mem_append_right _ (List.mem_append_right _ (mem_pinsAt hb e)))
          ⟨z.1, z.2.1⟩
        have hl : (wipe σ (own.map (·.2))).length = σ8.length := by rw [← hwh, wipe_length]
        refine ⟨mq, hm, i + 1, H', (Iq.unpinned (pins := [])).weak hl (fun j v e => ?_), T.keep _ _ _ tg7 fun b hb o e => (pinq b hb o e).1, fun b hb => ?_, wq⟩
        · rw [← hwh] at e
          exact (wipe_some e).1
        · obtain ⟨o, e, _⟩ := T.obj _ _ tg7 b hb
          exact (pinq b hb o e).2
      cases b with
      | false =>
        simp only [Bool.false_eq_true, if_false] at qi ⊢
        exact goal Ji qi
      | true =>
        simp only [if_true] at qi ⊢
        refine thnF (qk.run _ si σ8 Hi _ Ji qi) fun z sj ⟨yk, Hj, Jj, r10, q10⟩ => ?_
        refine thnF (qe.run _ sj σ8 Hj _ Jj q10) fun z2 sk ⟨yv, Hk, Jk, r11, xs, a, k, ek, hD11, nd11, dk11, dp11, hz11, nx⟩ => ?_
        subst ek
        obtain rfl : z = Value.ref a := r10
        exact d_dictSetN (X := X.blk sc Hc scope cv fp) hu Jk hD11 nd11 dk11 dp11 hz11 fun sl Jl => goal Jl (nx _ r11)
  exact codeAny_compStart_dict lp (T.self X.A 0 _ _ _ td4 lp)
/-- as a value -/
theorem pe_dcN {kx vx tg iter : Expr} {ifs : List Expr} {scope : Scope} {own : List (Str × Nat)} {pos : Pos} {wi : TI} {g : TG} {tt : TT} {tk tv : TE} (hu : X.A.units + 9 < cLine) (hc : X.calm = true) (hN : X.N.Nodup) (hi : PI X tg iter wi) (ok : BlkOk X.N X.env.scope scope own)
    (hg : ∀ (s : Shared) (H : Hp) (C : Addr) (cl : List (Str × Addr)) (fp : List Addr), PG (X.blk s H scope (compEnvC scope cl C X.env) fp) tg g) (ht : ∀ (s : Shared) (H : Hp) (C : Addr) (cl : List (Str × Addr)) (fp : List Addr), PTs (X.blk s H scope (compEnvC scope cl C X.env) fp) ifs tt)
    (hk : ∀ (s : Shared) (H : Hp) (C : Addr) (cl : List (Str × Addr)) (fp : List Addr), PE (X.blk s H scope (compEnvC scope cl C X.env) fp) kx tk)
    (he : ∀ (s : Shared) (H : Hp) (C : Addr) (cl : List (Str × Addr)) (fp : List Addr), PE (X.blk s H scope (compEnvC scope cl C X.env) fp) vx tv) (hs : ∀ x, foldedSetIterable iter X.env x = pure x := by intro _; rfl) :
    PE X (.DictComp kx vx [⟨tg, iter, ifs, 0⟩] scope pos) (tDcN X wi g tt tk tv (own.map (·.2))) := by
  refine ⟨fun pins s σ H Q I h => ?_⟩
  rw [arm_eval_DictComp]
  refine dcN_core hu hc hN I hi ok hg ht hk he hs h fun D C s' m H' Iq q hn f => ⟨m, hn, fun h'' sb => ?_⟩
  obtain ⟨f0, f1, fb, fc, f4, f5⟩ := f
  exact ⟨.ref D, H', Iq.turned (t' := s'.toks) (fun b o hb e => (sb.2 b hb).trans e) f0 f1 fc f4 f5, rfl, q⟩
end
end AB
namespace AB
open PySem PySem.Spec PyProof.Rows L2
section
variable {X : Cx} {scope : Scope} {e a b : Expr} {ρ : Env'} {O Oz : Own} {pos : Pos}
theorem dn_new {P : Program} {w : World} {J H : Hp} {σ : L2.St} {O : Own} {D0 : Addr} (s : Stt P w J H ρ σ O) (hD : H D0 = none) :
    Grow (adr O) (adr (O ++ [(D0, MO.dN [] [])])) J H J (upd H D0 (.ext (rawD P w D0 []))) ∧ Stt P w J (upd H D0 (.ext (rawD P w D0 []))) ρ σ (O ++ [(D0, .dN [] [])]) := by
  obtain ⟨g, s'⟩ := stt_new (o := .ext (rawD P w D0 [])) (m := .dN [] []) s hD (show DNok P w J _ D0 id [] [] from ⟨⟨[], [], upd_same, rfl, .nil, rfl, fun x hx => (nomatch hx)⟩, List.nodup_nil, fun x hx => (nomatch hx), fun x hx => (nomatch hx), Nat.zero_le _⟩)
  have hp : ((D0, MO.dN [] []) :: O).Perm (O ++ [(D0, .dN [] [])]) := (List.perm_append_singleton _ _).symm
  exact ⟨g.perm (fun a => Iff.rfl) fun a ha => (hp.map _).mem_iff.mpr ha, ⟨s'.sub, s'.len, s'.env, s'.own.perm hp⟩⟩
/-- {kx: vx for tg in iter}, keys nested, the dict owned -/
theorem de_dcN {kx vx tg iter : Expr} {own : List (Str × Nat)} {post : D → Own → Prop} (hu : X.A.units + 9 < cLine) (hc : X.calm = true) (hN : X.N.Nodup) (ok : BlkOk X.N X.env.scope scope own) (hs : ∀ x, foldedSetIterable iter X.env x = pure x)
    (h : DI X tg iter Oz ρ O fun ds O1 => ∃ Iv : Nat → List NestedKey → List D → Own → Prop, Iv 0 [] [] O1 ∧
      (∀ i d ks vs O', ds[i]? = some d → Iv i ks vs O' → BG X scope (own.map (·.2)) tg d (wipeR ρ (own.map (·.2))) O' fun ρ2 O2 => BE X scope kx ρ2 O2 fun dk O3 => BE X scope vx ρ2 O3 fun dv O4 =>
        ∃ k, dk = kD k ∧ (∃ l, k = .tup l) ∧ k.depth ≤ 8 ∧ ks.length < sizeLine ∧ Iv (i + 1) (kPutK ks k) (kPutV ks vs k dv) O4) ∧
      (∀ i ks vs O', Iv i ks vs O' → ∀ q ∈ Oz, q ∈ O') ∧ ∀ ks vs O', Iv ds.length ks vs O' → ∀ p, post (.raw (.ref p)) (O' ++ [(p, .dN ks vs)])) : DE X (.DictComp kx vx [⟨tg, iter, [], 0⟩] scope pos) ρ O post :=
  de_of (pe_dcN hu hc hN (any_i (tg := tg)) ok (fun s H C cl fp => any_bg (ts := own.map (·.2))) (fun s H C cl fp => pts_nil) (fun s H C cl fp => any_be) (fun s H C cl fp => any_be) hs) fun σ H Q ⟨I, s, q⟩ => by
    refine ⟨Oz, ρ, O, _, h, I, s, fun Jt J1 H1 ds O1 g1 s1 lk ⟨Iv, h0, hstep, hz, hend⟩ => fun D0 hD => ?_⟩
    obtain ⟨gN, sN⟩ := dn_new s1 hD
    refine ⟨fun i m H' => m = ds.length - i ∧ i ≤ ds.length ∧ ∃ ks vs J' O', Grow (adr O1) (adr (O' ++ [(D0, MO.dN ks vs)])) J1 H1 J' H' ∧ Stt X.prog X.w J' H' ρ σ (O' ++ [(D0, .dN ks vs)]) ∧ Iv i ks vs O', ⟨ds.length, by simp, Nat.zero_le _, [], [], J1, O1, gN, sN, h0⟩, ?_⟩
    rintro i m H' ⟨rfl, hi, ks, vs, J', O', g', s', iv⟩
    obtain ⟨l1, l2, l3⟩ := lk J' H' O' g'.up s'.sub s'.own.left (hz i ks vs O' iv)
    by_cases hlt : i < ds.length
    · refine .inr ⟨l1 i hlt, fun H3 => ∃ ks vs J3 O3, Grow (adr O1) (adr (O3 ++ [(D0, MO.dN ks vs)])) J1 H1 J3 H3 ∧ Stt X.prog X.w J3 H3 ρ σ (O3 ++ [(D0, .dN ks vs)]) ∧ Iv (i + 1) ks vs O3, fun H3 z => ⟨ds.length - (i + 1), by omega, rfl, hlt, z⟩, fun x H2 y => ?_⟩
      have hd0 : ds[i]? = some ds[i] := List.getElem?_eq_getElem hlt
      obtain ⟨I2, gg, n⟩ := l3 i x H2 ds[i] hd0 y
      have gg2 : Grow (adr (O' ++ [(D0, MO.dN ks vs)])) (adr (O' ++ [(D0, MO.dN ks vs)])) J' H' I2 H2 := ⟨gg.up, gg.sub, fun a o _ e => gg.kp a o (by simp) e, fun a o _ e e2 => gg.nw a o (by simp) e e2, fun a h => .inl h⟩
      have s2 : Stt X.prog X.w I2 H2 ρ σ (O' ++ [(D0, .dN ks vs)]) := s'.step gg2 ((s'.own).frame gg (fun _ _ z => by cases z))
      refine ⟨wipeR ρ (own.map (·.2)), ds[i], O', _, hstep i ds[i] ks vs O' hd0 iv, I2, s2.left.wipe _, n, fun σ3 J3 H3 ρ3 O3 g3 s3 u3 q3 => ?_⟩
      refine ⟨(wipe_ext u3.1 u3.2).trans (wipe_idem _ _), ?_⟩
      unfold tYes
      refine iT rfl ?_
      refine ⟨ρ3, O3, _, q3, J3, s3, fun kv J4 H4 dk O4 g4 s4 n4 q4 => ⟨ρ3, O4, _, q4, J4, s4, fun v J5 H5 dv O5 g5 s5 n5 q5 => ?_⟩⟩
      obtain ⟨k, rfl, ht, hdp, hsz, q5⟩ := q5
      obtain ⟨gF, oF⟩ := frame_call s2.own ((g3.trans g4).trans g5) s5.own
      have sF := s2.step gF oF
      have hi2 : (O5 ++ [(D0, MO.dN ks vs)])[O5.length]? = some (D0, .dN ks vs) := by simp
      obtain ⟨_, hOk⟩ := sF.own.own _ (List.mem_of_getElem? hi2)
      obtain ⟨⟨xs, us, h1, h2, h3, h4, h5⟩, nd, dp, tp, sz⟩ := (show DNok X.prog X.w J5 H5 D0 id ks vs from hOk)
      obtain ⟨a, rfl⟩ := den_tupkey n4 ht
      have hxl : xs.length = ks.length := by rw [← h2]; simp
      have e5 := sF.sub
      refine ⟨xs, a, k, rfl, h1, ⟨.inl h1, by rw [h2]; exact nd, fun x hx => ⟨Den.mono e5 _ (h5 x hx), dp _ (h2 ▸ List.mem_map.mpr ⟨x, hx, rfl⟩)⟩⟩, Den.mono (g5.up.trans e5) _ n4, hdp, by omega, fun u ru => ?_⟩
      obtain ⟨gP, sP⟩ := stt_write (o := .ext (rawD X.prog X.w D0 (storedH xs k a u))) (m' := .dN (kPutK ks k) (kPutV ks vs k dv)) sF hi2
        (show DNok X.prog X.w J5 _ D0 id _ _ from dn_put (H := H5) h2 h3 h4 h5 nd dp tp hsz (Den.mono g5.up _ n4) hdp ht n5 ru upd_same)
      have eS : (O5 ++ [(D0, MO.dN ks vs)]).set O5.length (D0, .dN (kPutK ks k) (kPutV ks vs k dv)) = O5 ++ [(D0, .dN (kPutK ks k) (kPutV ks vs k dv))] := by simp
      rw [eS] at gP sP
      exact ⟨_, _, J5, O5, ((g'.trans gg2).trans gF).trans gP, sP, q5⟩
    · have e : i = ds.length := by omega
      subst e
      exact .inl ⟨l2, q (.ref D0) J' H' (.raw (.ref D0)) _ (g1.trans g') s' rfl (hend ks vs O' iv D0)⟩
/-! ### zip of a tuple and a list -/
/-- the tuple at a, the list at b -/
def ItzM (K : PySem.W.Frag) (a b : Addr) : It :=
  ⟨fun i H => ∃ (xs ys : List V) (x y : V), SqT K H a xs ∧ SqL K H b ys ∧ xs[i]? = some x ∧ ys[i]? = some y,
    fun i H v H' => ∃ T x y, v = .ref T ∧ H T = none ∧ H' = upd H T (.tup [x, y]) ∧ (∀ xs, SqT K H a xs → xs[i]? = some x) ∧ ∀ ys, SqL K H b ys → ys[i]? = some y,
    fun i H => ∃ xs ys : List V, SqT K H a xs ∧ SqL K H b ys ∧ i ≤ xs.length ∧ i ≤ ys.length ∧ (xs.length = i ∨ ys.length = i)⟩
structure ZApart (z TI TO i1 i2 a b : Addr) : Prop where
  d : ZipSep2 z TI TO i1 i2 [i1, a] [i2, b]
  ne1 : a ≠ i1
  ne2 : b ≠ i2
theorem turn_zipM {P : Program} {w : World} {K : PySem.W.Frag} {elts : List Expr} {kk : Nat} {tpos : Pos} {a b z TI TO i1 i2 : Addr} (A : ZApart z TI TO i1 i2 a b) :
    Turn P w K (.Tuple elts kk tpos) (ItzM K a b) [z, TI, TO, i1, i2] z (fun i h => IsZip h z TI TO .none ∧ IsPair h TI (.ref i1) (.ref i2) ∧ (∃ x y, IsPair h TO x y) ∧ h.IsTupleIter i1 a i ∧ h.IsListIter i2 b i) where
  mem := List.mem_cons_self
  obj := fun i h st c hc => by
    obtain ⟨hz, hTI, ⟨x, y, hTO⟩, ⟨o1, e1, _, d1⟩, ⟨o2, e2, _, d2⟩⟩ := st
    have ec : c = z ∨ c = TI ∨ c = TO ∨ c = i1 ∨ c = i2 := by simpa using hc
    rcases ec with rfl | rfl | rfl | rfl | rfl
    · exact ⟨_, hz, fun v q => nomatch q⟩
    · exact ⟨_, hTI, fun v q => nomatch q⟩
    · exact ⟨_, hTO, fun v q => nomatch q⟩
    · exact ⟨o1, e1, fun v q => by rw [d1] at q; cases q⟩
    · exact ⟨o2, e2, fun v q => by rw [d2] at q; cases q⟩
  keep := fun i h h' ⟨hz, hTI, ⟨x, y, hTO⟩, h1, h2⟩ k =>
    ⟨k z (by simp) _ hz, k TI (by simp) _ hTI, ⟨x, y, k TO (by simp) _ hTO⟩, h1.at fun o q => k i1 (by simp) o q, h2.at fun o q => k i2 (by simp) o q⟩
  item := by
    intro X hP hw hK hc i pins s σ H E I hf ⟨hz, hTI, ⟨x0, y0, hTO⟩, h1, h2⟩ ⟨xs, ys, x, y, hqx, hqy, hx, hy⟩
    subst hP hw hK
    obtain ⟨us, rv, p, _⟩ := I.tuple hqx
    obtain ⟨ws, rv2, p2, _⟩ := I.list hqy
    obtain ⟨u, hu, ru⟩ := rv.get hx
    obtain ⟨u2, hu2, ru2⟩ := rv2.get hy
    have hd := I.ok.hd hc
    have D1 := Draws.tuple (prog := X.prog) (w := X.w) (A := X.A.in1) hd i1 a A.ne1 us.toArray
    have D2 := Draws.list (prog := X.prog) (w := X.w) (A := X.A.in1) hd i2 b A.ne2 ws.toArray
    have l1 : i < us.toArray.size := by have := (List.getElem?_eq_some_iff.mp hu).1; simpa using this
    have l2 : i < ws.toArray.size := by have := (List.getElem?_eq_some_iff.mp hu2).1; simpa using this
    refine wpAny_pyNext_zipD2_item A.d D1 D2 hz hTI hTO ⟨h1, p⟩ ⟨h2, p2.isList⟩ l1 l2 fun x1 x2 h' tk g1 g2 z' TO' st1 st2 hT hsz hk => ?_
    have ex1 : x1 = u := by
      have : us.toArray[i]? = some u := by simpa using hu
      exact Option.some.inj (g1.symm.trans this)
    have ex2 : x2 = u2 := by
      have : ws.toArray[i]? = some u2 := by simpa using hu2
      exact Option.some.inj (g2.symm.trans this)
    subst ex1 ex2
    have hzl : z < s.heap.objs.size := Heap.lt_size hz
    refine ⟨_, rfl, wpAny_letOwnedTupleGo_zip (s := { s with heap := h', toks := tk }) z' fun h'' z'' sb => ?_⟩
    have hT2 : h''.get? s.heap.objs.size = some { cls := .type "tuple", data := .seq #[x1, x2] } := (sb.2 _ (Nat.ne_of_gt hzl)).trans hT
    have new : ObjOk X.prog X.w (upd H s.heap.objs.size (.tup [x, y])) h'' s.heap.objs.size (.tup [x, y]) := ⟨show 2 ≤ sizeLine by decide, [x1, x2], .cons ru (.cons ru2 .nil), ⟨_, hT2, rfl, _, rfl⟩⟩
    have J : Inv X pins σ (upd H s.heap.objs.size (.tup [x, y])) { s with heap := h'', toks := tk } :=
      I.turnedNew (t' := tk) (ch := [z, TI, TO, i1, i2]) (fun c o hb q => by
        simp only [List.mem_cons, List.not_mem_nil, or_false, not_or] at hb
        exact (sb.2 c hb.1).trans (hk c o hb.1 hb.2.2.1 hb.2.2.2.1 hb.2.2.2.2 q)) hf (Nat.le_refl _) new
    refine ⟨.ref s.heap.objs.size, _, J, rfl, ⟨_, x, y, rfl, I.hok.fresh (Nat.le_refl _), rfl, fun l hl => by rw [I.tuple_inj hl hqx]; exact hx, fun l hl => by rw [I.list_inj hl hqy]; exact hy⟩, ⟨z'', ?_, ⟨x1, x2, ?_⟩, ?_, ?_⟩, fun c hcm => ?_⟩
    · exact (sb.2 _ A.d.TIz).trans (hk _ _ A.d.TIz A.d.TITO A.d.TIi1 A.d.TIi2 hTI)
    · exact (sb.2 _ A.d.TOz).trans TO'
    · exact st1.1.at fun o q => (sb.2 _ (Ne.symm A.d.zi1)).trans q
    · exact st2.1.at fun o q => (sb.2 _ (Ne.symm A.d.zi2)).trans q
    · have hlt : c < s.heap.objs.size := by
        have ec : c = z ∨ c = TI ∨ c = TO ∨ c = i1 ∨ c = i2 := by simpa using hcm
        rcases ec with rfl | rfl | rfl | rfl | rfl
        · exact hzl
        · exact Heap.lt_size hTI
        · exact Heap.lt_size hTO
        · obtain ⟨_, e1, _⟩ := h1; exact Heap.lt_size e1
        · obtain ⟨_, e2, _⟩ := h2; exact Heap.lt_size e2
      rw [upd_ne (Nat.ne_of_lt hlt)]
      exact (hf c hcm).1
  done := by
    intro X hP hw hK hc i pins s σ H E I hf ⟨hz, hTI, ⟨x0, y0, hTO⟩, h1, h2⟩ ⟨xs, ys, hqx, hqy, hle1, hle2, hend⟩
    subst hP hw hK
    obtain ⟨us, rv, p, _⟩ := I.tuple hqx
    obtain ⟨ws, rv2, p2, _⟩ := I.list hqy
    have hd := I.ok.hd hc
    have D1 := Draws.tuple (prog := X.prog) (w := X.w) (A := X.A.in1) hd i1 a A.ne1 us.toArray
    have D2 := Draws.list (prog := X.prog) (w := X.w) (A := X.A.in1) hd i2 b A.ne2 ws.toArray
    have e1 := rv.length
    have e2 := rv2.length
    refine wpAny_pyNext_zipD2_end A.d D1 D2 hz hTI hTO ⟨h1, p⟩ ⟨h2, p2.isList⟩ (by simp; omega) (by simp; omega) (by simp; omega) fun h' tk hk => ⟨rfl, I.turnedL (t' := tk) (ch := [z, TI, TO, i1, i2]) (fun c o hb q => ?_) hf⟩
    simp only [List.mem_cons, List.not_mem_nil, or_false, not_or] at hb
    exact hk c o hb.1 hb.2.2.1 hb.2.2.2.1 hb.2.2.2.2 q
  self := fun A' i s Q E st h => wpAny_pyIter_zip st.1 h
def iZipM (K : PySem.W.Frag) (ta : TA) : TI := fun σ H R => ta σ H fun vs H1 => ∃ a b xs ys, vs = [.ref a, .ref b] ∧ SqT K H1 a xs ∧ SqL K H1 b ys ∧ R (ItzM K a b) H1
theorem pi_zipM {ta : TA} {p tpos : Pos} {elts : List Expr} {kk : Nat} (hg : Gl X "zip") (hm : X.mg "zip" = none) (ha : PA X [a, b] ta)
    (hs : starEach [a, b] X.env = (false, eval a X.env) :: starEach [b] X.env) (hpl : (backTo pos (starEach [b] X.env)).any (·.1) = false) :
    PI X (.Tuple elts kk tpos) (.Call (.Name "zip" p) [a, b] [] pos) (iZipM X.K ta) := by
  refine ⟨fun pins s σ H R I h => ?_⟩
  refine Call_ (ld_blt I hg hm PyProof.Rows.boot_zip (PyProof.Rows.callWith_type1 (thn (ha.run pos pins s σ H _ I h) fun us s1 ⟨vs, H1, I1, r1, a, b, xs, ys, ex, hqx, hqy, q⟩ => ?_) hs hpl))
  subst ex
  obtain ⟨u1, u2, rfl, r, r'⟩ := vals2 r1
  cases r
  cases r'
  obtain ⟨its, rv, p1, _⟩ := I1.tuple hqx
  obtain ⟨its2, rv2, p2, _⟩ := I1.list hqy
  obtain ⟨o1, ho1, _⟩ := id p1
  have la : a < s1.heap.objs.size := Heap.lt_size ho1
  have lb : b < s1.heap.objs.size := p2.lt
  refine zip_begins2 (begins_tuple a its.toArray) (begins_list b its2.toArray) p1 p2.isList fun h' hz hTI hTO h1 h2 hsz hk => wpAny_pyIter_zip hz ?_
  have I2 : Inv X pins σ H1 { s1 with heap := h' } := I1.kept (t' := s1.toks) hk
  refine ⟨s1.heap.objs.size + 4, [s1.heap.objs.size + 4, s1.heap.objs.size + 2, s1.heap.objs.size + 3, s1.heap.objs.size, s1.heap.objs.size + 1], _, _, H1, rfl, I2,
    turn_zipM ⟨zip_sep2 (fp1 := [a]) (fp2 := [b]) (fun c hc => by rw [List.mem_singleton.mp hc]; exact la) (fun c hc => by rw [List.mem_singleton.mp hc]; exact lb), Nat.ne_of_lt la, Nat.ne_of_lt (Nat.lt_succ_of_lt lb)⟩, ⟨hz, hTI, ⟨_, _, hTO⟩, ⟨_, h1, rfl, rfl⟩, ⟨_, h2, rfl, rfl⟩⟩, fun c hcm => ?_, q⟩
  have ec : c = s1.heap.objs.size + 4 ∨ c = s1.heap.objs.size + 2 ∨ c = s1.heap.objs.size + 3 ∨ c = s1.heap.objs.size ∨ c = s1.heap.objs.size + 1 := by simpa using hcm
  have hle : s1.heap.objs.size ≤ c := by
    rcases ec with z | z | z | z | z
    · rw [z]; exact Nat.le_add_right _ _
    · rw [z]; exact Nat.le_add_right _ _
    · rw [z]; exact Nat.le_add_right _ _
    · rw [z]; exact Nat.le_refl _
    · rw [z]; exact Nat.le_add_right _ _
  exact I1.fpOk hle (I1.hok.fresh hle)
theorem di_zipM {p tpos : Pos} {elts : List Expr} {kk : Nat} {k : List D → Own → Prop} (hg : Gl X "zip") (hm : X.mg "zip" = none)
    (hs : starEach [a, b] X.env = (false, eval a X.env) :: starEach [b] X.env) (hpl : (backTo pos (starEach [b] X.env)).any (·.1) = false)
    (h : DA X [a, b] ρ O fun ds O1 => ∃ xs ys, ds = [.tup xs, .lst ys] ∧ k (pairD xs ys) O1) : DI X (.Tuple elts kk tpos) (.Call (.Name "zip" p) [a, b] [] pos) Oz ρ O k :=
  di_of (pi_zipM hg hm any_a hs hpl) fun σ H R ⟨I, s, q⟩ => ⟨ρ, O, _, h, I, s, fun vs J H1 ds O1 g s1 n z => by
    obtain ⟨xs, ys, rfl, z⟩ := z
    obtain ⟨v1, v2, rfl, ⟨a, us, rfl, ha, l1⟩, ⟨b, ws, rfl, hb, l2⟩⟩ := den2 n
    refine ⟨a, b, us, ws, rfl, SqT.of (s1.sub _ _ ha), SqL.of (s1.sub _ _ hb), q _ J H1 _ O1 g s1 ?_ z⟩
    intro I1 H2 O2 e1 e2 _ _
    have hx := SqT.of (K := X.K) (e2 _ _ (e1 _ _ ha))
    have hy := SqL.of (K := X.K) (e2 _ _ (e1 _ _ hb))
    have hl1 := l1.length
    have hl2 := l2.length
    rw [pairD_length]
    refine ⟨fun i hi => ⟨us, ws, us[i], ws[i], hx, hy, List.getElem?_eq_getElem (by omega), List.getElem?_eq_getElem (by omega)⟩, ⟨us, ws, hx, hy, by omega, by omega, by omega⟩, fun i x H' d hd y => ?_⟩
    obtain ⟨T, x1, y1, rfl, hT, rfl, y2, y3⟩ := y
    obtain ⟨d1, d2, hd1, hd2, rfl⟩ := pairD_get hd
    obtain ⟨u1, e3, m1⟩ := l1.get hd1
    obtain ⟨u2, e4, m2⟩ := l2.get hd2
    have z1 := y2 us hx
    have z2 := y3 ws hy
    rw [e3] at z1; rw [e4] at z2
    cases z1; cases z2
    have gg := new_grow (o := .tup [x1, y1]) e2 hT
    exact ⟨_, gg, T, _, rfl, upd_same, DenL.cons (Den.mono (e1.trans gg.up) _ m1) (DenL.cons (Den.mono (e1.trans gg.up) _ m2) rfl)⟩⟩
end
end AB
namespace AB
open PySem PySem.Spec PyProof.Rows L2
/-! ### sorted of pairs -/
def prI (q : Int × Int) : D := .tup [.int q.1, .int q.2]
def pairAt (H : Hp) : V → Int × Int
  | .ref t => match H t with
    | some (.tup [.int i, .int j]) => (i, j)
    | _ => (0, 0)
  | _ => (0, 0)
theorem pairAt_ref {H : Hp} {t : Addr} {i j : Int} (h : H t = some (.tup [.int i, .int j])) : pairAt H (.ref t) = (i, j) := by simp [pairAt, h]
theorem rc_sortedP {P : Program} {w : World} {K : PySem.W.Frag} {O : Own} {ps : List (Int × Int)} {post : D → Own → Prop} (k : ∀ qs : List (Int × Int), qs.Perm ps → qs.Pairwise (fun x y => SrtO.lexB y x = false) → post (.lst (qs.map prI)) O) : RC P w (rSortedPO K) [.lst (ps.map prI)] O post := by
  intro I H vs e ow n Q c
  obtain ⟨v, rfl, n1⟩ := den1 n
  obtain ⟨a, xs, rfl, ha, l⟩ := n1
  have hx : ∀ x ∈ xs, ∃ t, x = V.ref t ∧ I t = some (.tup [.int (pairAt H x).1, .int (pairAt H x).2]) := by
    intro x hx
    obtain ⟨i, hi⟩ := List.mem_iff_getElem?.mp hx
    have hl := l.length
    have hlt : i < ps.length := by have := (List.getElem?_eq_some_iff.mp hi).1; simp at hl; omega
    obtain ⟨y, h1, h2⟩ := l.get (map_at (f := prI) (List.getElem?_eq_getElem hlt))
    rw [hi] at h1
    cases h1
    obtain ⟨t, ys, rfl, ht, ly⟩ := h2
    obtain ⟨y1, y2, rfl, m1, m2⟩ := den2 ly
    rw [show y1 = V.int _ from m1, show y2 = V.int _ from m2] at ht
    refine ⟨t, rfl, ?_⟩
    rw [pairAt_ref (e _ _ ht)]
    exact ht
  have hmap : xs.map (pairAt H) = ps := by
    apply List.ext_getElem?
    intro i
    have hl := l.length
    rw [List.getElem?_map]
    by_cases hlt : i < ps.length
    · obtain ⟨y, h1, h2⟩ := l.get (map_at (f := prI) (List.getElem?_eq_getElem hlt))
      rw [h1, List.getElem?_eq_getElem hlt]
      obtain ⟨t, ys, rfl, ht, ly⟩ := h2
      obtain ⟨y1, y2, rfl, m1, m2⟩ := den2 ly
      rw [show y1 = V.int _ from m1, show y2 = V.int _ from m2] at ht
      have : pairAt H (V.ref t) = ps[i] := pairAt_ref (e _ _ ht)
      rw [← this]
      rfl
    · rw [List.getElem?_eq_none (by simp at hl; omega), List.getElem?_eq_none (by omega)]
      rfl
  refine ⟨a, xs, pairAt H, rfl, SqL.of (e _ _ ha), fun x hxx => ?_, fun ys p h1 h2 hp => ?_⟩
  · obtain ⟨t, h1, h2⟩ := hx x hxx
    exact ⟨t, h1, e _ _ h2⟩
  · obtain ⟨g, s⟩ := stt_imm (P := P) (w := w) (ρ := []) (σ := []) (o := .lst ys) ⟨e, rfl, fun i d q => by simp at q, ow⟩ hp
    refine c (.ref p) _ _ (.lst ((ys.map (pairAt H)).map prI)) O g s.own ⟨p, _, rfl, upd_same, DenL.mono (Ex.new (e.free hp)) _ ?_⟩ (k _ ?_ ?_)
    · have hm : ∀ y ∈ ys, y ∈ xs := fun y hy => h2.perm.mem_iff.mp hy
      clear h1 h2 g s
      induction ys with
      | nil => exact rfl
      | cons y ys ih =>
        obtain ⟨t, rfl, ht⟩ := hx y (hm y List.mem_cons_self)
        exact ⟨_, _, rfl, ⟨t, _, rfl, ht, ⟨_, _, rfl, rfl, _, _, rfl, rfl, rfl⟩⟩, ih fun z hz => hm z (List.mem_cons_of_mem _ hz)⟩
    · rw [← hmap]
      exact h2.perm.map _
    · exact List.pairwise_map.mpr h1
end AB
namespace AB
open PySem PySem.Spec PyProof.Rows L2
/-! ### data that can be compared -/
mutual
def pyD : D → PyData
  | .bl b => .bool b
  | .int i => .int i
  | .str x => .str x
  | .tup ds => .tuple (pyDs ds)
  | .lst ds => .list (pyDs ds)
  | _ => .none
def pyDs : List D → List PyData
  | [] => []
  | d :: ds => pyD d :: pyDs ds
end
mutual
def plainD : D → Bool
  | .non => true
  | .bl _ => true
  | .int _ => true
  | .str _ => true
  | .tup ds => plainDs ds
  | .lst ds => plainDs ds
  | _ => false
def plainDs : List D → Bool
  | [] => true
  | d :: ds => plainD d && plainDs ds
end
theorem pyDs_map : ∀ ds : List D, pyDs ds = ds.map pyD
  | [] => rfl
  | d :: ds => by rw [pyDs, pyDs_map ds]; rfl
theorem plainDs_map {α : Type} {f : α → D} : ∀ {xs : List α}, (∀ x ∈ xs, plainD (f x) = true) → plainDs (xs.map f) = true
  | [], _ => rfl
  | x :: xs, h => by rw [List.map_cons, plainDs, h x List.mem_cons_self, plainDs_map fun y hy => h y (List.mem_cons_of_mem _ hy)]; rfl
mutual
theorem dp_of {K : PySem.W.Frag} {I H : Hp} (e : Ex I H) : ∀ (d : D) {v : V}, Den I d v → plainD d = true → Dp K H v (pyD d)
  | .non, v, n, _ => by rw [show v = _ from n]; exact .non
  | .bl b, v, n, _ => by rw [show v = _ from n]; exact .bl b
  | .int i, v, n, _ => by rw [show v = _ from n]; exact .int i
  | .str x, v, n, _ => by rw [show v = _ from n]; exact .str x
  | .tup ds, v, ⟨a, xs, r, ha, l⟩, p => by rw [r]; exact .tup (SqT.of (e _ _ ha)) (dps_of e ds l p)
  | .lst ds, v, ⟨a, xs, r, ha, l⟩, p => by rw [r]; exact .lst (SqL.of (e _ _ ha)) (dps_of e ds l p)
  | .dK _ _, _, _, p => by cases p
  | .ins _ _ _, _, _, p => by cases p
  | .raw _, _, _, p => by cases p
  | .ext _, _, _, p => by cases p
theorem dps_of {K : PySem.W.Frag} {I H : Hp} (e : Ex I H) : ∀ (ds : List D) {xs : List V}, DenL I ds xs → plainDs ds = true → DpAll K H xs (pyDs ds)
  | [], xs, n, _ => by rw [show xs = [] from n]; exact .nil
  | d :: ds, xs, ⟨y, ys, r, n, l⟩, p => by
    rw [plainDs, Bool.and_eq_true] at p
    rw [r]
    exact .cons (dp_of e d n p.1) (dps_of e ds l p.2)
end
section
variable {X : Cx} {P : Program} {w : World} {K : PySem.W.Frag} {O : Own}
theorem rd_eqD {d1 d2 : D} {post : D → Own → Prop} (p1 : plainD d1 = true) (p2 : plainD d2 = true) (s1 : SeqAt.shaped (pyD d1) = true) (s2 : SeqAt.shaped (pyD d2) = true) (k : post (.bl (PyData.eqv (pyD d1) (pyD d2))) O) : RD P w (rEqD K) d1 d2 O post := by
  intro I H v1 v2 e ow n1 n2 Q c
  exact ⟨_, _, dp_of e d1 n1 p1, dp_of e d2 n2 p2, s1, s2, c _ I H (.bl _) O (Grow.refl e) ow rfl k⟩
theorem rd_neD {d1 d2 : D} {post : D → Own → Prop} (p1 : plainD d1 = true) (p2 : plainD d2 = true) (s1 : SeqAt.shaped (pyD d1) = true) (s2 : SeqAt.shaped (pyD d2) = true) (k : post (.bl (!PyData.eqv (pyD d1) (pyD d2))) O) : RD P w (rNeD K) d1 d2 O post := by
  intro I H v1 v2 e ow n1 n2 Q c
  exact ⟨_, _, dp_of e d1 n1 p1, dp_of e d2 n2 p2, s1, s2, c _ I H (.bl _) O (Grow.refl e) ow rfl k⟩
/-! ### sorted, by what is in it -/
abbrev rSortA (K : PySem.W.Frag) : List V → Hp → VK → Prop := fun vs H Q => ∃ (a : Addr) (xs : List V) (ds : List PyData), vs = [V.ref a] ∧ SqL K H a xs ∧ DpAll K H xs ds ∧ PySem.W.AllAlike ds ∧ PySem.W.Sortable ds ∧ (∀ d ∈ ds, d.depth ≤ 7) ∧
  ∀ (ys : List V) (p : Addr), ys.Perm xs → H p = none → Q (.ref p) (upd H p (.lst ys))
theorem dpAll_zip {H : Hp} : ∀ {xs : List V} {ds : List PyData}, DpAll K H xs ds → (xs.zip ds).map (·.1) = xs ∧ (xs.zip ds).map (·.2) = ds ∧ ∀ p ∈ xs.zip ds, Dp K H p.1 p.2
  | _, _, .nil => ⟨rfl, rfl, fun _ h => (nomatch h)⟩
  | _, _, .cons h t => by
    obtain ⟨h1, h2, h3⟩ := dpAll_zip t
    refine ⟨by rw [List.zip_cons_cons, List.map_cons, h1], by rw [List.zip_cons_cons, List.map_cons, h2], fun p hp => ?_⟩
    rw [List.zip_cons_cons] at hp
    rcases List.mem_cons.mp hp with rfl | hp
    · exact h
    · exact h3 p hp
theorem each_vals : ∀ {bs : List (V × PyData)} {us : List Value}, Vals (bs.map (·.1)) us → PySem.W.EachIs (fun u b => RelV b.1 u) us bs
  | [], _, h => by cases h; exact .nil
  | b :: bs, _, h => by
    cases h with
    | cons r t => exact .cons r (each_vals t)
theorem vals_each : ∀ {bs : List (V × PyData)} {us : List Value}, PySem.W.EachIs (fun u b => RelV b.1 u) us bs → Vals (bs.map (·.1)) us
  | _, _, .nil => .nil
  | _, _, .cons r t => .cons r (vals_each t)
theorem each_memR {α β : Type} {R : α → β → Prop} : ∀ {as : List α} {bs : List β}, PySem.W.EachIs R as bs → PySem.W.EachIs (fun a b => R a b ∧ b ∈ bs) as bs
  | _, _, .nil => .nil
  | _, _, .cons r t => .cons ⟨r, List.mem_cons_self⟩ ((each_memR t).mono fun _ _ h => ⟨h.1, List.mem_cons_of_mem _ h.2⟩)
theorem cr_sortA (hu : X.A.units + 9 < cLine) : CallR X (.builtin "sorted") (rSortA X.K) := by
  intro pins s σ H vs us Q I r h
  obtain ⟨a, xs, ds, rfl, hs, hd, hal, hso, hdp, q⟩ := h
  obtain ⟨its, rv, hl, hz⟩ := I.list hs
  rw [Vals.ref1 r]
  obtain ⟨z1, z2, z3⟩ := dpAll_zip hd
  have hlen : (xs.zip ds).length = xs.length := by have := congrArg List.length z1; simpa using this
  have e0 : PySem.W.EachIs (fun u b => RelV b.1 u) its (xs.zip ds) := each_vals (by rw [z1]; exact rv)
  refine PySem.W.sorted_data (enc := fun b : V × PyData => b.2) hl.isList e0 ((each_memR e0).mono fun u b hb => Dp.reads I _ _ _ (z3 b hb.2) hb.1) ?_ ?_ (by rw [hlen]; exact hz) (fun b hb => ?_) fun out ho eo => ?_
  · rw [z2]; exact hal
  · rw [z2]; exact hso
  · have hm : b.2 ∈ ds := by rw [← z2]; exact List.mem_map.mpr ⟨b, hb, rfl⟩
    have := hdp _ hm
    omega
  · obtain ⟨ep, he'⟩ := PyProof.Rows.sortedAll_at s.heap its out.toArray
    have hp : (((xs.zip ds).mergeSort (PySem.W.dataLe false fun b : V × PyData => b.2)).map (·.1)).Perm xs := by
      have := (List.mergeSort_perm (xs.zip ds) (PySem.W.dataLe false fun b : V × PyData => b.2)).map (·.1)
      rwa [z1] at this
    refine ⟨.ref _, upd H (s.heap.objs.size + 1) (.lst _), I.laid (t' := s.toks) (fun _ _ => PyProof.Rows.sortedAll_old) (Nat.le_succ _) ⟨?_, out, ep, vals_each eo, he'⟩, rfl, q _ _ hp (I.hok.fresh (Nat.le_succ _))⟩
    rw [hp.length_eq]
    exact hz
/-- .. for data told by a map -/
theorem rc_sortA {α : Type} {f : α → D} {xs : List α} {post : D → Own → Prop} (hp : ∀ x ∈ xs, plainD (f x) = true) (hal : ∀ x y, x ∈ xs → y ∈ xs → PySem.W.alike (pyD (f x)) (pyD (f y)) = true) (hso : ∀ x ∈ xs, ∃ d ds, f x = .tup (d :: ds)) (hd : ∀ x ∈ xs, (pyD (f x)).depth ≤ 7)
    (k : ∀ ys : List α, ys.Perm xs → post (.lst (ys.map f)) O) : RC P w (rSortA K) [.lst (xs.map f)] O post := by
  intro I H vs e ow n Q c
  obtain ⟨v, rfl, n1⟩ := den1 n
  obtain ⟨a, us, rfl, ha, l⟩ := n1
  have hpy : pyDs (xs.map f) = xs.map fun x => pyD (f x) := by rw [pyDs_map, List.map_map]; rfl
  refine ⟨a, us, _, rfl, SqL.of (e _ _ ha), dps_of e _ l (plainDs_map hp), ?_, .inl ?_, ?_, fun ys p hperm hpn => ?_⟩
  · rw [hpy]
    intro d hd d' hd'
    obtain ⟨x, hx, rfl⟩ := List.mem_map.mp hd
    obtain ⟨y, hy, rfl⟩ := List.mem_map.mp hd'
    exact hal x y hx hy
  · rw [hpy]
    intro d hd
    obtain ⟨x, hx, rfl⟩ := List.mem_map.mp hd
    obtain ⟨d0, ds0, e0⟩ := hso x hx
    exact ⟨pyD d0, pyDs ds0, by rw [e0]; rfl⟩
  · rw [hpy]
    intro d hd'
    obtain ⟨x, hx, rfl⟩ := List.mem_map.mp hd'
    exact hd x hx
  · obtain ⟨zs, hz, lz⟩ : ∃ zs : List α, zs.Perm xs ∧ DenL I (zs.map f) ys := by
      have : ∀ {us ys : List V}, ys.Perm us → ∀ {xs : List α}, DenL I (xs.map f) us → ∃ zs : List α, zs.Perm xs ∧ DenL I (zs.map f) ys := by
        intro us ys hp
        induction hp with
        | nil => intro xs l; exact ⟨xs, List.Perm.refl _, l⟩
        | cons x _ ih =>
          intro xs l
          cases xs with
          | nil => cases l
          | cons z xs =>
            obtain ⟨y, ys, r, n, l⟩ := l
            cases r
            obtain ⟨zs, h1, h2⟩ := ih l
            exact ⟨z :: zs, h1.cons z, _, _, rfl, n, h2⟩
        | swap x y t =>
          intro xs l
          cases xs with
          | nil => cases l
          | cons z xs =>
            obtain ⟨y1, ys1, r, n, l⟩ := l
            cases r
            cases xs with
            | nil => cases l
            | cons z2 xs =>
              obtain ⟨y2, ys2, r, n2, l⟩ := l
              cases r
              exact ⟨z2 :: z :: xs, List.Perm.swap _ _ _, _, _, rfl, n2, _, _, rfl, n, l⟩
        | trans _ _ ih1 ih2 =>
          intro xs l
          obtain ⟨zs, h1, h2⟩ := ih2 l
          obtain ⟨ws, h3, h4⟩ := ih1 h2
          exact ⟨ws, h3.trans h1, h4⟩
      exact this hperm l
    obtain ⟨g, s⟩ := stt_imm (P := P) (w := w) (ρ := []) (σ := []) (o := .lst ys) ⟨e, rfl, fun i d q => by simp at q, ow⟩ hpn
    exact c (.ref p) _ _ (.lst (zs.map f)) O g s.own ⟨p, _, rfl, upd_same, DenL.mono (Ex.new (e.free hpn)) _ lz⟩ (k zs hz)
/-! ### dicts told by maps -/
section
variable {α : Type} [DecidableEq α]
def putG (l : List α) (x : α) : List α := if x ∈ l then l else l ++ [x]
theorem mem_putG {l : List α} {x y : α} : y ∈ putG l x ↔ y ∈ l ∨ y = x := by
  unfold putG
  split
  · constructor
    · exact .inl
    · rintro (h | rfl)
      · exact h
      · assumption
  · simp
theorem putG_nodup {l : List α} {x : α} (h : l.Nodup) : (putG l x).Nodup := by
  unfold putG
  split
  · exact h
  · rename_i hx
    exact List.nodup_append.mpr ⟨h, List.nodup_cons.mpr ⟨by simp, List.nodup_nil⟩, fun a ha b hb e => by simp at hb; subst hb; exact hx (e ▸ ha)⟩
theorem putG_len (l : List α) (x : α) : (putG l x).length ≤ l.length + 1 := by
  unfold putG; split <;> simp
theorem dn_putG {f : α → NestedKey} (hf : ∀ x y, f x = f y → x = y) {l : List α} {x : α} {g g' : α → D} (hg : ∀ y ∈ l, y ≠ x → g y = g' y) : MO.dN (kPutK (l.map f) (f x)) (kPutV (l.map f) (l.map g) (f x) (g' x)) = .dN ((putG l x).map f) ((putG l x).map g') := by
  have hm : f x ∈ l.map f ↔ x ∈ l := ⟨fun h => by obtain ⟨y, hy, e⟩ := List.mem_map.mp h; rw [← hf _ _ e]; exact hy, fun h => List.mem_map.mpr ⟨x, h, rfl⟩⟩
  unfold putG
  by_cases h : x ∈ l
  · rw [if_pos h, kPutK_old (hm.mpr h)]
    congr 1
    unfold kPutV
    rw [if_pos (kHas_mem.mpr (hm.mpr h)), List.zip_map', List.map_map]
    apply List.map_congr_left
    intro y hy
    show (if f y = f x then g' x else g y) = g' y
    by_cases hyx : y = x
    · rw [if_pos (by rw [hyx]), hyx]
    · rw [if_neg fun e => hyx (hf _ _ e), hg y hy hyx]
  · rw [if_neg h, kPutK_new (fun z => h (hm.mp z)), kPutV_new (fun z => h (hm.mp z)), List.map_append, List.map_append]
    congr 2
    apply List.map_congr_left
    intro y hy
    exact hg y hy fun e => h (e ▸ hy)
theorem lkG {f : α → NestedKey} (hf : ∀ x y, f x = f y → x = y) (g : α → D) {x : α} : ∀ l : List α, kLk (l.map f) (l.map g) (f x) = if x ∈ l then some (g x) else none
  | [] => rfl
  | y :: l => by
    show (if f y = f x then some (g y) else kLk _ _ _) = _
    rw [lkG hf g l]
    by_cases h : y = x
    · subst h; simp
    · rw [if_neg fun e => h (hf _ _ e)]
      by_cases hx : x ∈ l
      · rw [if_pos hx, if_pos (List.mem_cons_of_mem _ hx)]
      · rw [if_neg hx, if_neg]
        intro z
        rcases List.mem_cons.mp z with rfl | z
        · exact h rfl
        · exact hx z
end
end
end AB
namespace AB
open PySem PySem.Spec PyProof.Rows L2
section
variable {X : Cx} {es : List Expr} {ρ : Env'} {O : Own} {pos : Pos}
theorem dg_sq {ts : List Nat} {k : Nat} {d : D} {ds : List D} {post : Env' → Own → Prop} (hd : d = .lst ds ∨ d = .tup ds) (hc : X.calm = true) (hn : (assignEach es X.env).length = ds.length) (hst : (assignEach es X.env).findIdx? (·.1) = none)
    (h : DGs X ts es ds ρ O post) : DG X ts (.Tuple es k pos) d ρ O post := by
  rcases hd with rfl | rfl
  · exact dg_lst hc hn hst h
  · exact dg_tup hc hn hst h
end
theorem sqd_of {d : D} {ds : List D} {O : Own} (h : d = .lst ds ∨ d = .tup ds) : SqD d O ds := by
  rcases h with rfl | rfl
  · exact sqd_l
  · exact sqd_t
theorem ty_sq {d : D} {ds : List D} (h : d = .lst ds ∨ d = .tup ds) : ∃ T b1 b2, tyOf d = some T ∧ kitB T "tuple" = some b1 ∧ kitB T "list" = some b2 ∧ (b1 || b2) = true := by
  rcases h with rfl | rfl
  · exact ⟨"list", false, true, rfl, rfl, rfl, rfl⟩
  · exact ⟨"tuple", true, false, rfl, rfl, rfl, rfl⟩
end AB
namespace AB
open PySem PySem.Spec PyProof.Rows L2
section
variable {X : Cx} {ρ : Env'} {O : Own} {st : Stmt}
/-- a statement behind a lock -/
theorem ds_lock {i : Nat} {p : Addr} {ks : List NestedKey} {ds : List D} {q : Post} (hi : O[i]? = some (p, .dN ks ds))
    (h : ∀ od u, DS X st ρ (O.set i (p, .dNz od u ks ds)) ⟨fun ρ' O' => ∃ j : Nat, O'[j]? = some (p, .dNz od u ks ds) ∧ q.nx ρ' (O'.set j (p, .dN ks ds)), fun _ _ => False, fun _ _ => False, fun _ _ => False⟩) : DS X st ρ O q :=
  ds_of (ps_lock any_s) fun Dn σ H ⟨I, s, k1, k2, k3, k4⟩ => by
    obtain ⟨hI, ⟨⟨xs, vs, h1, h2, h3, h4, h5⟩, nd, dp, tp, sz⟩⟩ := s.own.own _ (List.mem_of_getElem? hi)
    have h1 : H p = some (.ext (rawD X.prog X.w p xs)) := h1
    refine ⟨p, _, h1, True.intro, fun od => ?_⟩
    obtain ⟨g, s'⟩ := stt_write (o := .frz od (.ext (rawD X.prog X.w p xs))) (m' := .dNz od (.ext (rawD X.prog X.w p xs)) ks ds) s hi ⟨upd_same, ⟨⟨xs, vs, rfl, h2, h3, h4, h5⟩, nd, dp, tp, sz⟩⟩
    refine ⟨ρ, _, _, h od _, I, s', ?_, fun _ _ _ _ _ _ _ _ z => z.elim, fun _ _ _ _ _ _ _ z => z.elim, fun _ _ _ _ _ _ _ z => z.elim⟩
    intro σ2 J H2 ρ2 O2 g2 s2 z
    obtain ⟨j, hj, z⟩ := z
    obtain ⟨hJ, hf, hN⟩ := s2.own.own _ (List.mem_of_getElem? hj)
    refine ⟨hf, ?_⟩
    obtain ⟨⟨ys, us, e1, e2, e3, e4, e5⟩, nd2, dp2, tp2, sz2⟩ := hN
    obtain ⟨g3, s3⟩ := stt_write (o := .ext (rawD X.prog X.w p xs)) (m' := .dN ks ds) s2 hj (show DNok X.prog X.w J _ p id ks ds from ⟨⟨ys, us, by rw [upd_same]; exact e1, e2, e3, e4, e5⟩, nd2, dp2, tp2, sz2⟩)
    exact k1 σ2 J _ ρ2 _ ((g.trans g2).trans g3) s3 z
end
end AB
namespace AB
open PySem PySem.Spec PyProof.Rows L2
section
variable {X : Cx} {e a b : Expr} {es : List Expr} {ρ : Env'} {O : Own} {pos : Pos}
/-! ### instances made -/
theorem stt_junk {P : Program} {w : World} {I H : Hp} {σ : L2.St} {p : Addr} {o : HO} (s : Stt P w I H ρ σ O) (hp : H p = none) : Grow (adr O) (adr O) I H I (upd H p o) ∧ Stt P w I (upd H p o) ρ σ O := by
  have hi := s.sub.free hp
  have g : Grow (adr O) (adr O) I H I (upd H p o) := ⟨Ex.refl I, s.sub.mut hi, fun a u _ h => by rw [upd_ne (ne_of_none h hp)]; exact h, fun a u _ h h2 => h2, fun _ h => .inl h⟩
  refine ⟨g, s.step g ⟨fun q hq => ?_, s.own.nd⟩⟩
  obtain ⟨h1, h2⟩ := s.own.own q hq
  obtain ⟨u, hu⟩ := h2.there
  exact ⟨h1, h2.mono (Ex.refl I) fun o ho => by rw [upd_ne (ne_of_none ho hp)]; exact ho⟩
/-- a class that makes: its constructor's promise -/
structure StdMk (P : Program) (w : World) (K : PySem.W.Frag) (mg : Str → Option Value) (base : Heap) (k : Nat) (x : Str) (C : Addr) (ps : List Str) (F : FS) : Prop where
  ex : ∃ f fd, mg x = some (.ref C) ∧ Mk K C f ∧ Binds K fd ps [] ∧ FnOk P w K mg base CX0 k f fd ps (spD P w F)
theorem de_make {k j : Nat} {ps : List Str} {C : Addr} {F : FS} {x : Str} {p : Pos} {post : D → Own → Prop} (G : StdMk X.prog X.w X.K X.mg X.base k x C ps F) (hr : Room j X.A) (hkj : k + 1 ≤ j)
    (hg : Gl X x) (hdb : (x == ("__debug__" : Str)) = false) (hst : starEach (e :: es) X.env = (false, eval e X.env) :: starEach es X.env) (hpl : (backTo pos (starEach es X.env)).any (·.1) = false)
    (ha : DA X (e :: es) ρ O fun ds O1 => ∀ q, F (.raw (.ref q) :: ds) [(q, .ins C [] [])] fun d O' => d = .non ∧ post (.raw (.ref q)) (O' ++ O1)) : DE X (.Call (.Name x p) (e :: es) [] pos) ρ O post := by
  obtain ⟨f, fd, hm, M, hb, FF⟩ := G.ex
  refine de_of (pe_make M FF (hr.mono hkj) hg hm hb .nil pass0 any_a hdb hst hpl) fun σ H Q ⟨I, s, q⟩ => ⟨ρ, O, _, ha, I, s, fun vs J H1 ds O1 g s1 n h => fun x dx hx hdx hne => ?_⟩
  obtain ⟨g2, s2⟩ := stt_junk (o := .own x) s1 hdx
  have hx2 : (upd H1 dx (.own x)) x = none := by rw [upd_ne (fun e => hne e.symm)]; exact hx
  obtain ⟨g3, s3⟩ := stt_new (o := .ins C dx []) (m := .ins C [] []) s2 hx2 ⟨dx, [], upd_same, rfl, rfl⟩
  rw [List.append_nil]
  have o3 : Owns X.prog X.w J _ ([(x, MO.ins C [] [])] ++ O1) := s3.own
  refine ⟨J, .raw (.ref x) :: ds, [(x, .ins C [] [])], _, s3.sub, o3.left, DenL.cons rfl n, h x, fun v J2 H2 d O2 g4 o4 n4 k4 => ?_⟩
  obtain ⟨rfl, k4⟩ := k4
  obtain ⟨g5, o5⟩ := frame_call o3 g4 o4
  exact ⟨n4, q (.ref x) J2 H2 (.raw (.ref x)) _ (((g.trans g2).trans g3).trans g5) (s3.step g5 o5) rfl k4⟩
/-! ### operators of one's own -/
theorem bin_same {prog : Program} {w : World} {A : Around} {E : Value → Shared → Prop} {s : Shared} {K : PySem.W.Frag} {x y C f : Addr} {ox oy : Obj} {dx dy : Option Obj} {Q : Value → Shared → Prop} (V : K.In s.heap) (I : PySem.W.InstAt s.heap x ox C dx) (J : PySem.W.InstAt s.heap y oy C dy)
    (hc : PySem.W.selfFirst K C = true) (hs : PySem.W.findIn K (.ref C) (PySem.dunder "add") = some (some (.ref f))) (hf : PySem.W.isFn K (.ref f) = true)
    (h : wpAny (model prog w) A (call (.ref f) [.ref x, .ref y]) (PySem.W.CmpBack Q) E s) : wpAny (model prog w) A (binaryOp .Add (.ref x) (.ref y)) Q E s := by
  obtain ⟨cd, rest, hcd, hm⟩ := PySem.W.ksp_first hc
  have one := PySem.W.ksp_try V I hs hf h
  obtain ⟨hh, g, d, tt, os⟩ := s
  have t1 : PySem.W.Looks (model prog w) hh (typeOf (.ref x)) (.ref C) := I.type
  have t2 : PySem.W.Looks (model prog w) hh (typeOf (.ref y)) (.ref C) := J.type
  have t3 : PySem.W.Looks (model prog w) hh (fillsNumberSlot (.ref C) "add") true := PySem.W.fills_K V hcd hm hs
  have hi : Operator.Add.info = ("+", "add") := rfl
  simp only [binaryOp, hi]
  refine wpAny_holding (wpAny_bind ?_)
  unfold binaryOp1
  refine wpAny_bind (t1.at (wpAny_bind (t2.at (wpAny_bind (t3.at ?_)))))
  simp only [beq_self_eq_true, if_true, pure_bind, Bool.and_false, Bool.false_and, Bool.false_eq_true, if_false]
  refine wpAny_bind (wpAny_mono one (fun r s' hr' => ?_) fun _ _ e => e)
  obtain ⟨v, rfl, hq⟩ := hr'
  exact wpAny_pure (wpAny_pure hq)
/-- x is an instance of C -/
def InsAt (H : Hp) (C : Addr) (x : V) : Prop := ∃ a dx fs, x = .ref a ∧ H a = some (.ins C dx fs)
theorem op_addOwn {C f : Addr} {fd : FuncData} {ps : List Str} {k : Nat} {sp : Sp} (F : FnOk X.prog X.w X.K X.mg X.base CX0 k f fd ps sp) (hr : Room k X.A) (hb : Binds X.K fd ps [])
    (hc : PySem.W.selfFirst X.K C = true) (hm : Meth X.K C (PySem.dunder "add") f) : OpR X (binaryOp .Add) (fun x y H Q => InsAt H C x ∧ InsAt H C y ∧ sp [x, y] H Q (fun _ _ _ => False)) := by
  intro pins s σ H x y v u Q I rx ry ⟨⟨a, dx, fs, ex, ha⟩, ⟨b, dy, gs, ey, hb2⟩, q⟩
  subst ex ey
  cases (show v = Value.ref a from rx)
  cases (show u = Value.ref b from ry)
  obtain ⟨mA, OA, _⟩ := ins_get I.hok ha
  obtain ⟨mB, OB, _⟩ := ins_get I.hok hb2
  obtain ⟨o1, J1, _⟩ := OA.look
  obtain ⟨o2, J2, _⟩ := OB.look
  refine bin_same I.kIn J1 J2 hc hm.at_ hm.fn ?_
  refine wpAny_mono (run_fn (us := [.ref a, .ref b]) (vs := [.ref a, .ref b]) (ds := []) (dvs := []) F hr hb .nil pass0 I (.cons rfl (.cons rfl .nil)) q) (fun w' s' z => ?_) fun _ _ x => x
  obtain ⟨z', H', I', rz, qz⟩ := z
  exact SlX.cmpback rz ⟨z', H', I', rz, qz⟩
theorem un_negOwn {C f : Addr} {fd : FuncData} {ps : List Str} {k : Nat} {sp : Sp} (F : FnOk X.prog X.w X.K X.mg X.base CX0 k f fd ps sp) (hr : Room k X.A) (hb : Binds X.K fd ps [])
    (hm : Meth X.K C "__neg__" f) : UnR X (unaryOp .USub) (fun x H Q => InsAt H C x ∧ sp [x] H Q (fun _ _ _ => False)) := by
  intro pins s σ H x v Q I rx ⟨⟨a, dx, fs, ex, ha⟩, q⟩
  subst ex
  cases (show v = Value.ref a from rx)
  obtain ⟨mA, OA, _⟩ := ins_get I.hok ha
  obtain ⟨o1, J1, _⟩ := OA.look
  obtain ⟨m, hF⟩ := I.fr
  exact PySem.W.ksp_neg hF I.ok.mod.kin J1 hm.at_ hm.fn (run_fn (us := [.ref a]) (vs := [.ref a]) (ds := []) (dvs := []) F hr hb .nil pass0 I (.cons rfl .nil) q)
/-- a method that stands -/
structure StdM (P : Program) (w : World) (K : PySem.W.Frag) (mg : Str → Option Value) (base : Heap) (k : Nat) (C : Addr) (m : Str) (ps : List Str) (F : FS) : Prop where
  ex : ∃ f fd, Meth K C m f ∧ Binds K fd ps [] ∧ FnOk P w K mg base CX0 k f fd ps (spD P w F)
theorem insAt_of {P : Program} {w : World} {I H : Hp} {d : D} {v : V} {C : Addr} {fs : List Str} {ds : List D} (e : Ex I H) (n : Den I d v) (h : d = .ins C fs ds) : InsAt H C v := by
  subst h
  obtain ⟨a, dx, xs, r, ha, _⟩ := n
  exact ⟨a, dx, _, r, e _ _ ha⟩
theorem de_addOwn {C : Addr} {k j : Nat} {ps : List Str} {F : FS} {post : D → Own → Prop} (G : StdM X.prog X.w X.K X.mg X.base k C (PySem.dunder "add") ps F) (hc : PySem.W.selfFirst X.K C = true) (hr : Room j X.A) (hkj : k ≤ j)
    (h : DE X a ρ O fun d1 O1 => DE X b ρ O1 fun d2 O2 => (∃ fs ds, d1 = .ins C fs ds) ∧ (∃ fs ds, d2 = .ins C fs ds) ∧ F [d1, d2] [] fun d O' => post d (O' ++ O2)) : DE X (.BinOp a .Add b pos) ρ O post := by
  obtain ⟨f, fd, hm, hb, FF⟩ := G.ex
  refine de_op (op_addOwn FF (hr.mono hkj) hb hc hm) (h.imp fun d1 O1 z => z.imp fun d2 O2 z => ?_)
  obtain ⟨⟨fs1, ds1, e1⟩, ⟨fs2, ds2, e2⟩, hF⟩ := z
  intro I H v1 v2 e ow n1 n2 Q c
  refine ⟨insAt_of (P := X.prog) (w := X.w) e n1 e1, insAt_of (P := X.prog) (w := X.w) e n2 e2, I, [d1, d2], [], _, e, Owns.nil, DenL.cons n1 (DenL.cons n2 rfl), hF, fun v J H' d O' g o n k4 => ?_⟩
  obtain ⟨g5, o5⟩ := frame_call (Oa := []) (Ob := O2) ow g o
  exact c v J H' d _ g5 o5 n k4
theorem de_negOwn {C : Addr} {k j : Nat} {ps : List Str} {F : FS} {post : D → Own → Prop} (G : StdM X.prog X.w X.K X.mg X.base k C "__neg__" ps F) (hr : Room j X.A) (hkj : k ≤ j)
    (h : DE X a ρ O fun d1 O1 => (∃ fs ds, d1 = .ins C fs ds) ∧ F [d1] [] fun d O' => post d (O' ++ O1)) : DE X (.UnaryOp .USub a pos) ρ O post := by
  obtain ⟨f, fd, hm, hb, FF⟩ := G.ex
  refine de_of (pe_un (un_negOwn FF (hr.mono hkj) hb hm) any_e) fun σ H Q ⟨I, s, q⟩ => ⟨ρ, O, _, h, I, s, fun v J1 H1 d1 O1 g1 s1 n1 z => ?_⟩
  obtain ⟨⟨fs1, ds1, e1⟩, hF⟩ := z
  refine ⟨insAt_of (P := X.prog) (w := X.w) s1.sub n1 e1, J1, [d1], [], _, s1.sub, Owns.nil, DenL.cons n1 rfl, hF, fun v J H' d O' g o n k4 => ?_⟩
  obtain ⟨g5, o5⟩ := frame_call (Oa := []) (Ob := O1) s1.own g o
  exact q v J H' d _ (g1.trans g5) (s1.step g5 o5) n k4
end
end AB
namespace AB
open PySem PySem.Spec PyProof.Rows L2
/-! ### more rules -/
section
variable {P : Program} {w : World} {I H : Hp} {ρ : Env'} {σ : L2.St} {O : Own}
theorem stt_add {H' : Hp} {N : List Addr} (s : Stt P w I H ρ σ O) (hk : ∀ b o, H b = some o → H' b = some o) (hN : ∀ a ∈ N, H a = none) :
    Grow (adr O) (adr O) I H (fun a => if a ∈ N then H' a else I a) H' ∧ Stt P w (fun a => if a ∈ N then H' a else I a) H' ρ σ O := by
  have nin : ∀ a o, H a = some o → a ∉ N := fun a o h m => by rw [hN a m] at h; cases h
  have up : Ex I (fun a => if a ∈ N then H' a else I a) := fun a o h => by
    show (if a ∈ N then H' a else I a) = some o
    rw [if_neg (nin a o (s.sub a o h))]; exact h
  have g : Grow (adr O) (adr O) I H (fun a => if a ∈ N then H' a else I a) H' := ⟨up, fun a o h => by
      by_cases m : a ∈ N
      · rw [if_pos m] at h; exact h
      · rw [if_neg m] at h; exact hk a o (s.sub a o h), fun a o _ h => hk a o h, fun a o _ h hi => by rw [if_neg (nin a o h)]; exact hi, fun _ h => .inl h⟩
  refine ⟨g, s.step g ⟨fun q hq => ?_, s.own.nd⟩⟩
  obtain ⟨h1, h2⟩ := s.own.own q hq
  obtain ⟨u, hu⟩ := h2.there
  exact ⟨by show (if q.1 ∈ N then H' q.1 else I q.1) = none; rw [if_neg (nin _ _ hu)]; exact h1, h2.mono up fun o ho => hk _ o ho⟩
theorem paired_imp {α β : Type} {F G : α → β → Prop} : ∀ {xs : List α} {ys : List β}, Paired F xs ys → (∀ x y, x ∈ xs → F x y → G x y) → Paired G xs ys
  | _, _, .nil, _ => .nil
  | _, _, .cons h t, hi => .cons (hi _ _ List.mem_cons_self h) (paired_imp t fun x y hx => hi x y (List.mem_cons_of_mem _ hx))
theorem denl_items {J : Hp} : ∀ {ts : List Addr} {ks : List Key} {ds : List D} {xs : List V}, Paired (fun (t : Addr) (q : Key × V) => J t = some (.tup [kV q.1, q.2])) ts (ks.zip xs) → ks.length = xs.length → DenL J ds xs →
    DenL J ((ks.zip ds).map fun q => .tup [keyD q.1, q.2]) (ts.map V.ref)
  | ts, [], ds, xs, h, hl, l => by
    rw [List.zip_nil_left] at h
    cases h
    rw [List.zip_nil_left]
    exact rfl
  | ts, k :: ks, [], xs, h, hl, l => by
    have : xs = [] := l
    subst this
    cases hl
  | ts, k :: ks, d :: ds, xs, h, hl, l => by
    obtain ⟨x, ys, rfl, hd, l⟩ := l
    rw [List.zip_cons_cons] at h
    cases h with
    | cons h t =>
      rw [List.zip_cons_cons, List.map_cons, List.map_cons]
      exact DenL.cons ⟨_, _, rfl, h, DenL.cons (show Den J (keyD k) (kV k) by cases k <;> rfl) (DenL.cons hd DenL.nil)⟩ (denl_items t (by simpa using hl) l)
end
section
variable {X : Cx} {e a b hi : Expr} {es : List Expr} {ρ : Env'} {O : Own} {pos p p2 apos cpos : Pos}
/-- list(e.items()) of a dict -/
theorem de_listItems {post : D → Own → Prop} (hc : X.calm = true) (hg : Gl X "list") (hm : X.mg "list" = none) (hbase : attributeBase e "items" X.env (eval e X.env) = eval e X.env) (hline : (apos.endLine == cpos.line) = true)
    (hs : starEach [.Call (.Attribute e "items" apos) [] [] cpos] X.env = (false, eval (.Call (.Attribute e "items" apos) [] [] cpos) X.env) :: starEach [] X.env)
    (h : DE X e ρ O fun d O1 => ∃ ks ds, DkD d O1 ks ds ∧ post (.lst ((ks.zip ds).map fun q => .tup [keyD q.1, q.2])) O1) : DE X (.Call (.Name "list" p) [.Call (.Attribute e "items" apos) [] [] cpos] [] pos) ρ O post :=
  de_of (LiI.pe_listItems hc any_e hg hm boot_list hbase hline hs) fun σ H Q ⟨I, s, q⟩ => ⟨ρ, O, _, h, I, s, fun v J1 H1 d O1 g1 s1 n1 z => by
    obtain ⟨ks, ds, hd, k⟩ := z
    obtain ⟨a, xs, rfl, ha, hl, l⟩ := dkd_at s1.sub s1.own n1 hd
    refine ⟨a, ks.zip xs, rfl, ha, fun H' p ts hk hp hts hpn hpl hpd => ?_⟩
    obtain ⟨g2, s2⟩ := stt_add (N := p :: ts) s1 hk (fun b hb => (List.mem_cons.mp hb).elim (fun e => e ▸ hp) (hts b))
    refine q (.ref p) _ H' (.lst ((ks.zip ds).map fun q => .tup [keyD q.1, q.2])) O1 (g1.trans g2) s2 ⟨p, ts.map V.ref, rfl, ?_, denl_items (xs := xs) ?_ hl (DenL.mono g2.up _ l)⟩ k
    · show (if p ∈ p :: ts then H' p else J1 p) = _
      rw [if_pos List.mem_cons_self]; exact hpl
    · refine paired_imp hpd fun t y ht hy => ?_
      show (if t ∈ p :: ts then H' t else J1 t) = _
      rw [if_pos (List.mem_cons_of_mem _ ht)]; exact hy⟩
theorem DenL.cut {I : Hp} {ds : List D} {xs : List V} (l : DenL I ds xs) (lo hi : Option Int) : DenL I ((ds.drop (HT.sIx ds.length 0 lo)).take (HT.sIx ds.length ds.length hi - HT.sIx ds.length 0 lo)) (cutV xs lo hi) := by
  unfold cutV
  rw [← l.length]
  exact (l.drop _).take _
/-- xs[:n] of a list -/
theorem de_cutTo {post : D → Own → Prop} (h : DE X e ρ O fun d O1 => DE X hi ρ O1 fun d2 O2 => ∃ (ds : List D) (n : Nat), d = .lst ds ∧ d2 = .int (n : Int) ∧ n ≤ ds.length ∧ post (.lst (ds.take n)) O2) : DE X (.Subscript e (.Slice none (some hi) none p2) pos) ρ O post :=
  de_of (pe_slice sl_list any_e po_none (po_some any_e)) fun σ H Q ⟨I, s, q⟩ => ⟨ρ, O, _, h, I, s, fun v J1 H1 d O1 g1 s1 n1 z => ⟨ρ, O1, _, z, J1, s1, fun v2 J2 H2 d2 O2 g2 s2 n2 z => by
    obtain ⟨ds, n, rfl, rfl, hn, k⟩ := z
    obtain ⟨a, xs, rfl, ha, l⟩ := Den.mono g2.up _ n1
    refine ⟨(n : Int), n2, a, xs, rfl, SqL.of (s2.sub _ _ ha), fun p hp => ?_⟩
    obtain ⟨g3, s3⟩ := stt_imm (o := .lst (cutV xs none (some (n : Int)))) s2 hp
    refine q (.ref p) _ _ (.lst (ds.take n)) O2 ((g1.trans g2).trans g3) s3 ⟨p, _, rfl, upd_same, ?_⟩ k
    have := DenL.mono g3.up _ (l.cut none (some (n : Int)))
    rw [HT.sIx_none, HT.sIx_nat, Nat.sub_zero, List.drop_zero, Nat.min_eq_left hn] at this
    exact this⟩⟩
/-- xs[n:] of a list -/
theorem de_cutFrom {post : D → Own → Prop} (h : DE X e ρ O fun d O1 => DE X hi ρ O1 fun d2 O2 => ∃ (ds : List D) (n : Nat), d = .lst ds ∧ d2 = .int (n : Int) ∧ n ≤ ds.length ∧ post (.lst (ds.drop n)) O2) : DE X (.Subscript e (.Slice (some hi) none none p2) pos) ρ O post :=
  de_of (pe_slice sl_list any_e (po_some any_e) po_none) fun σ H Q ⟨I, s, q⟩ => ⟨ρ, O, _, h, I, s, fun v J1 H1 d O1 g1 s1 n1 z => ⟨ρ, O1, _, z, J1, s1, fun v2 J2 H2 d2 O2 g2 s2 n2 z => by
    obtain ⟨ds, n, rfl, rfl, hn, k⟩ := z
    obtain ⟨a, xs, rfl, ha, l⟩ := Den.mono g2.up _ n1
    refine ⟨(n : Int), n2, a, xs, rfl, SqL.of (s2.sub _ _ ha), fun p hp => ?_⟩
    obtain ⟨g3, s3⟩ := stt_imm (o := .lst (cutV xs (some (n : Int)) none)) s2 hp
    refine q (.ref p) _ _ (.lst (ds.drop n)) O2 ((g1.trans g2).trans g3) s3 ⟨p, _, rfl, upd_same, ?_⟩ k
    have := DenL.mono g3.up _ (l.cut (some (n : Int)) none)
    rw [HT.sIx_none, HT.sIx_nat, Nat.min_eq_left hn, List.take_of_length_le (by rw [List.length_drop]; exact Nat.le_refl _)] at this
    exact this⟩⟩
theorem rd_eqS {P : Program} {w : World} {x y : Str} {post : D → Own → Prop} (k : post (.bl (decide (x = y))) O) : RD P w rEq (.str x) (.str y) O post :=
  rd_eq (x := .str x) (y := .str y) (fun _ _ h => h) (fun _ _ h => h) rfl (by
    have : decide (V.str x = V.str y) = decide (x = y) := by
      by_cases h : x = y
      · subst h; simp
      · rw [decide_eq_false h, decide_eq_false fun e => h (V.str.inj e)]
    rw [this]; exact k)
theorem rd_neB {P : Program} {w : World} {x y : Bool} {post : D → Own → Prop} (k : post (.bl (!decide (x = y))) O) : RD P w rNe (.bl x) (.bl y) O post :=
  rd_ne (x := .bl x) (y := .bl y) (fun _ _ h => h) (fun _ _ h => h) rfl (by
    have : decide (V.bl x = V.bl y) = decide (x = y) := by
      by_cases h : x = y
      · subst h; simp
      · rw [decide_eq_false h, decide_eq_false fun e => h (V.bl.inj e)]
    rw [this]; exact k)
end
end AB
namespace AB
open PySem PySem.Spec PyProof.Rows L2
/-! ### enumerate of a tuple -/
theorem meets_enum_newT (t : Addr) (items : Array Value) :
    Meets (Builtin.«enumerate.__new__» ⟨[.type "enumerate", .ref t], []⟩) (fun _ R s => s.heap.IsTuple t items ∧
      R (.ok (.ret (.ref (s.heap.push { cls := .type "tuple_iterator", data := .fields #[.ref t, .int 0 0] }).objs.size)))
        { s with heap := (s.heap.push { cls := .type "tuple_iterator", data := .fields #[.ref t, .int 0 0] }).push { cls := .type "enumerate", data := .fields #[.none, .bool false, .ref s.heap.objs.size, rawInt 0, .none, .none] } }) :=
  .of_wp fun prog w A R s h => by
    obtain ⟨hp, g, d, tk, os⟩ := s
    obtain ⟨hL, h⟩ := h
    have hsub := sub_enumerate
    have hL : Heap.IsTuple (Shared.heap ⟨hp, g, d, tk, os⟩) t items := hL
    wp_walk
    refine wpAny_stack_any fun st => wpAny_pure ?_
    split
    · rename_i c _ _ _ _ _
      cases (c == Value.type "enumerate")
      · wp_walk using wpAny_pyIter_tuple hL
        exact ⟨_, rfl, h⟩
      · wp_walk using wpAny_pyIter_tuple hL
        exact ⟨_, rfl, h⟩
    · wp_walk using wpAny_pyIter_tuple hL
      exact ⟨_, rfl, h⟩
section
variable {prog : Program} {w : World} {A : Around} {E : Value → Shared → Prop} {s : Shared}
theorem call_enum_tuple {t : Addr} {items : Array Value} {Q : Value → Shared → Prop} (hL : s.heap.IsTuple t items)
    (h : ∀ h', IsEnum h' (s.heap.objs.size + 1) s.heap.objs.size 0 .none → h'.IsTupleIter s.heap.objs.size t 0 → h'.objs.size = s.heap.objs.size + 2 →
      (∀ b o, s.heap.get? b = some o → h'.get? b = some o) → Q (.ref (s.heap.objs.size + 1)) { s with heap := h' }) :
    wpAny (model prog w) A (call (.type "enumerate") [.ref t]) Q E s := by
  refine callType_new F.called_enumerate (by decide) (F.typeCall_enumerate_1 _) (F.newCall_enumerate_1 _) (fun obj => F.args_object_init_2 obj _) F.entry_enumerate_new
    (meets_enum_newT t items) ⟨hL, ?_⟩
  have hz : (s.heap.push { cls := .type "tuple_iterator", data := .fields #[.ref t, .int 0 0] }).objs.size = s.heap.objs.size + 1 := Heap.size_push ..
  show _ ∧ _
  rw [hz]
  have he : IsEnum ((s.heap.push { cls := .type "tuple_iterator", data := .fields #[.ref t, .int 0 0] }).push
      { cls := .type "enumerate", data := .fields #[.none, .bool false, .ref s.heap.objs.size, rawInt 0, .none, .none] }) (s.heap.objs.size + 1) s.heap.objs.size 0 .none := by
    have := Heap.get?_push_size (s.heap.push { cls := .type "tuple_iterator", data := .fields #[.ref t, .int 0 0] })
      (o := { cls := .type "enumerate", data := .fields #[.none, .bool false, .ref s.heap.objs.size, rawInt 0, .none, .none] }) rfl
    rw [hz] at this; exact this
  refine ⟨⟨_, he, rfl⟩, h _ he ⟨_, Heap.get?_push_of_some _ (Heap.get?_push_size _ rfl), rfl, rfl⟩ (by rw [Heap.size_push, hz]) fun b o x => Heap.get?_push_of_some _ (Heap.get?_push_of_some _ x)⟩
end
/-- the tuple at a, each item in a new pair -/
def IteT (K : PySem.W.Frag) (a : Addr) : It :=
  ⟨fun i H => ∃ (xs : List V) (x : V), SqT K H a xs ∧ xs[i]? = some x, fun i H v H' => ∃ T x, v = .ref T ∧ H T = none ∧ H' = upd H T (.tup [.int (i : Nat), x]) ∧ ∀ xs, SqT K H a xs → xs[i]? = some x, fun i H => ∃ xs : List V, SqT K H a xs ∧ xs.length = i⟩
theorem turn_enumT {P : Program} {w : World} {K : PySem.W.Frag} {elts : List Expr} {kk : Nat} {tpos : Pos} (a e it : Addr) (hat : a ≠ it) (hae : e ≠ a) :
    Turn P w K (.Tuple elts kk tpos) (IteT K a) [e, it] e (fun i h => (∃ old, IsEnum h e it ((i : Nat) : Int) old) ∧ h.IsTupleIter it a i ∧ e ≠ it) where
  mem := by simp
  obj := fun i h st b hb => by
    obtain ⟨⟨old, he⟩, ⟨o, ho, hc, hd⟩, _⟩ := st
    have e' : b = e ∨ b = it := by simpa using hb
    rcases e' with z | z
    · rw [z]; exact ⟨_, he, fun v q => nomatch q⟩
    · rw [z]; exact ⟨o, ho, fun v q => by rw [hd] at q; cases q⟩
  keep := fun i h h' st k => let ⟨⟨old, he⟩, hi, hne⟩ := st; ⟨⟨old, k e (by simp) _ he⟩, hi.at fun o q => k it (by simp) o q, hne⟩
  item := by
    intro X hP hw hK hc i pins s σ H E I hf st hg
    subst hP hw hK
    obtain ⟨⟨old, he⟩, hit, hne⟩ := st
    obtain ⟨xs, x, hq, hx⟩ := hg
    obtain ⟨its, rv, p, hz⟩ := I.tuple hq
    obtain ⟨u, hu, ru⟩ := rv.get hx
    have hd := I.ok.hd hc
    have D := Draws.tuple (prog := X.prog) (w := X.w) (A := X.A.in1) hd it a hat its.toArray
    have hlt : i < its.toArray.size := by have := (List.getElem?_eq_some_iff.mp hu).1; simpa using this
    have hel : e < s.heap.objs.size := Heap.lt_size he
    have hil : it < s.heap.objs.size := by obtain ⟨_, q, _⟩ := hit; exact Heap.lt_size q
    refine wpAny_pyNext_enum_itemD D he ⟨hit, p⟩ hlt hne (by simp [hae, hne]) fun x1 h' tk g1 ho st1 hT hsz hk => ?_
    have ex1 : x1 = u := by
      have : its.toArray[i]? = some u := by simpa using hu
      exact Option.some.inj (g1.symm.trans this)
    subst ex1
    refine ⟨_, rfl, wpAny_letOwnedTupleGo_enum (s := { s with heap := h', toks := tk + 1 }) ho fun h'' he' sb => ?_⟩
    have hT2 : h''.get? s.heap.objs.size = some { cls := .type "tuple", data := .seq #[.int i tk, x1] } := (sb.2 _ (Nat.ne_of_gt hel)).trans hT
    have new : ObjOk X.prog X.w (upd H s.heap.objs.size (.tup [.int (i : Nat), x])) h'' s.heap.objs.size (.tup [.int (i : Nat), x]) :=
      ⟨by show 2 ≤ sizeLine; decide, [.int i tk, x1], .cons ⟨_, rfl⟩ (.cons ru .nil), ⟨_, hT2, rfl, _, rfl⟩⟩
    have I1 : Inv X pins σ (upd H s.heap.objs.size (.tup [.int (i : Nat), x])) { s with heap := h'', toks := tk + 1 } :=
      I.turnedNew (ch := [e, it]) (fun b ob hb q => (sb.2 b (fun z => hb (by simp [z]))).trans (hk b ob (fun z => hb (by simp [z])) (fun z => hb (by simp [z])) q)) hf (Nat.le_refl _) new
    refine ⟨.ref s.heap.objs.size, _, I1, rfl, ⟨_, x, rfl, I.hok.fresh (Nat.le_refl _), rfl, fun ys hy => by rw [I.tuple_inj hy hq]; exact hx⟩, ⟨⟨x1, ?_⟩, st1.1.at fun o q => (sb.2 it (Ne.symm hne)).trans q, hne⟩, fun b hb => ?_⟩
    · have e1 : ((i + 1 : Nat) : Int) = (i : Int) + 1 := by omega
      rw [e1]; exact he'
    · have hb' : b < s.heap.objs.size := by
        have e' : b = e ∨ b = it := by simpa using hb
        rcases e' with z | z
        · rw [z]; exact hel
        · rw [z]; exact hil
      rw [upd_ne (Nat.ne_of_lt hb')]
      exact (hf b hb).1
  done := by
    intro X hP hw hK hc i pins s σ H E I hf st hg
    subst hP hw hK
    obtain ⟨⟨old, he⟩, hit, hne⟩ := st
    obtain ⟨xs, hq, hx⟩ := hg
    obtain ⟨its, rv, p, hz⟩ := I.tuple hq
    have hd := I.ok.hd hc
    have D := Draws.tuple (prog := X.prog) (w := X.w) (A := X.A.in1) hd it a hat its.toArray
    obtain ⟨f0, f1, f2, f3, f4, f5⟩ := hf it (by simp)
    have hl := rv.length
    have hi : i = its.toArray.size := by simp; omega
    subst hi
    exact wpAny_pyNext_enum_endD D he ⟨hit, p⟩ fun h' eb => ⟨rfl, I.turned (t' := s.toks) (fun b o hb q => eb b o hb q) f0 f1 f3 f4 f5⟩
  self := fun A i s Q E st h => let ⟨⟨_, he⟩, _⟩ := st; wpAny_pyIter_enum he h
def iEnumT (K : PySem.W.Frag) (ta : TA) : TI := fun σ H R => ta σ H fun vs H1 => ∃ a xs, vs = [.ref a] ∧ SqT K H1 a xs ∧ R (IteT K a) H1
theorem pi_enumT {X : Cx} {e : Expr} {ta : TA} {p pos tpos : Pos} {elts : List Expr} {kk : Nat} (hg : Gl X "enumerate") (hm : X.mg "enumerate" = none) (ha : PA X [e] ta) (hs : starEach [e] X.env = [(false, eval e X.env)]) :
    PI X (.Tuple elts kk tpos) (.Call (.Name "enumerate" p) [e] [] pos) (iEnumT X.K ta) := by
  refine ⟨fun pins s σ H R I h => ?_⟩
  refine Call_ (ld_blt I hg hm boot_enumerate (PyProof.Rows.callWith_type1 (thn (ha.run pos pins s σ H _ I h) fun us s1 ⟨vs, H1, I1, r1, q1⟩ => ?_) hs rfl))
  obtain ⟨a, xs, ex, hq, q⟩ := q1
  subst ex
  cases r1 with
  | cons r rr =>
    cases rr
    cases r
    obtain ⟨its, rv, p', hz⟩ := I1.tuple hq
    obtain ⟨o1, ho1, _⟩ := id p'
    have la : a < s1.heap.objs.size := Heap.lt_size ho1
    refine call_enum_tuple p' fun h' he hit hsz hk => wpAny_pyIter_enum he ?_
    have I2 : Inv X pins σ H1 { s1 with heap := h' } := I1.kept (t' := s1.toks) hk
    refine ⟨s1.heap.objs.size + 1, [s1.heap.objs.size + 1, s1.heap.objs.size], _, _, H1, rfl, I2, turn_enumT a (s1.heap.objs.size + 1) s1.heap.objs.size (Nat.ne_of_lt la) (Ne.symm (Nat.ne_of_lt (Nat.lt_succ_of_lt la))), ⟨⟨.none, he⟩, hit, Nat.succ_ne_self _⟩, fun b hb => ?_, q⟩
    have e' : b = s1.heap.objs.size + 1 ∨ b = s1.heap.objs.size := by simpa using hb
    have hle : s1.heap.objs.size ≤ b := by
      rcases e' with z | z
      · rw [z]; exact Nat.le_add_right _ _
      · rw [z]; exact Nat.le_refl _
    exact I1.fpOk hle (I1.hok.fresh hle)
section
variable {X : Cx} {a : Expr} {ρ : Env'} {O Oz : Own} {pos : Pos}
theorem di_enumT {p tpos : Pos} {elts : List Expr} {kk : Nat} {k : List D → Own → Prop} (hg : Gl X "enumerate") (hm : X.mg "enumerate" = none) (hs : starEach [a] X.env = [(false, eval a X.env)])
    (h : DA X [a] ρ O fun ds O1 => ∃ xs, ds = [.tup xs] ∧ k (enumD xs) O1) : DI X (.Tuple elts kk tpos) (.Call (.Name "enumerate" p) [a] [] pos) Oz ρ O k :=
  di_of (pi_enumT hg hm any_a hs) fun σ H R ⟨I, s, q⟩ => ⟨ρ, O, _, h, I, s, fun vs J H1 ds O1 g s1 n z => by
    obtain ⟨xs, rfl, z⟩ := z
    obtain ⟨v1, rfl, ⟨a, us, rfl, ha, l1⟩⟩ := den1 n
    refine ⟨a, us, rfl, SqT.of (s1.sub _ _ ha), q _ J H1 _ O1 g s1 ?_ z⟩
    intro I1 H2 O2 e1 e2 _ _
    have hx := SqT.of (K := X.K) (e2 _ _ (e1 _ _ ha))
    have hl1 := l1.length
    rw [enumD_length]
    refine ⟨fun i hi => ⟨us, us[i], hx, List.getElem?_eq_getElem (by omega)⟩, ⟨us, hx, by omega⟩, fun i x H' d hd y => ?_⟩
    obtain ⟨T, x1, rfl, hT, rfl, y2⟩ := y
    obtain ⟨d1, hd1, rfl⟩ := enumD_get hd
    obtain ⟨u1, e3, m1⟩ := l1.get hd1
    have z1 := y2 us hx
    rw [e3] at z1
    cases z1
    have gg := new_grow (o := .tup [.int (i : Nat), x1]) e2 hT
    exact ⟨_, gg, T, _, rfl, upd_same, DenL.cons (show Den _ _ _ from rfl) (DenL.cons (Den.mono (e1.trans gg.up) _ m1) rfl)⟩⟩
end
end AB
namespace AB
open PySem PySem.Spec PyProof.Rows L2
local macro_rules | `(tactic| walk_at "d") => `(tactic| first
  | refine dss_cons ?_ | refine dss_nil ?_ | refine ds_ret ?_ | refine ds_if ?_
  | refine de_v rfl (by first | exact .inl rfl | exact .inr (.inl rfl) | exact .inr (.inr rfl)) (by decide) (by decide) rfl ?_
  | refine de_int ?_ | refine de_bl ?_ | refine de_non ?_ | refine de_str ?_
  | refine de_and ?_ | refine de_or ?_ | refine de_one ?_ | refine de_not ?_ | refine dt_not ?_ | refine dt_w (dw_and ?_) | refine dt_w (dw_or ?_) | refine dw_and ?_ | refine dw_or ?_ | refine dw_and1 ?_ | refine dw_or1 ?_
  | refine da_cons rfl ?_ | refine da_nil ?_
  | refine dg_tup rfl rfl rfl ?_ | refine dgs_cons rfl ?_ | refine dgs_nil ?_ | refine dg_v (by assumption) rfl (by first | exact .inl rfl | exact .inr rfl) (by first | exact .inr rfl | exact .inl rfl) (by decide) ?_
  | refine de_tup ?_ | refine de_if ?_ | refine de_negI ?_ | refine de_neg ?_ | refine de_ix (fun _ _ => rfl) ?_
  | refine ds_st (by assumption) rfl (by first | exact .inl rfl | exact .inr rfl) rfl (by first | exact .inl rfl | exact .inr rfl) ?_)
local macro_rules | `(tactic| walk_at "e") => `(tactic| first
  | refine dss_cons ?_ | refine dss_nil ?_ | refine ds_ret ?_ | refine ds_if ?_
  | refine de_v rfl (by first | exact .inl rfl | exact .inr (.inl rfl) | exact .inr (.inr rfl)) (by decide) (by decide) rfl ?_
  | refine de_int ?_ | refine de_bl ?_ | refine de_non ?_ | refine de_str ?_
  | refine de_and ?_ | refine de_or ?_ | refine de_one ?_ | refine de_not ?_ | refine dt_not ?_ | refine dt_w (dw_and ?_) | refine dt_w (dw_or ?_) | refine dw_and ?_ | refine dw_or ?_ | refine dw_and1 ?_ | refine dw_or1 ?_
  | refine da_cons rfl ?_ | refine da_nil ?_
  | refine dg_tup rfl rfl rfl ?_ | refine dgs_cons rfl ?_ | refine dgs_nil ?_ | refine dg_v (by assumption) rfl (by first | exact .inl rfl | exact .inr rfl) (by first | exact .inr rfl | exact .inl rfl) (by decide) ?_
  | refine de_tup ?_ | refine de_if ?_ | refine de_negI ?_
  | refine ds_st (by assumption) rfl (by first | exact .inl rfl | exact .inr rfl) rfl (by first | exact .inl rfl | exact .inr rfl) ?_)
local macro_rules | `(tactic| walk_at "isi") => `(tactic| refine de_callB call_isi rfl (Bn.isinstance (by assumption)) boot_isinstance (by decide) (by decide) rfl rfl ?_)
local macro_rules | `(tactic| walk_at "isiT") => `(tactic| refine de_callB call_isiT rfl (Bn.isinstance (by assumption)) boot_isinstance (by decide) (by decide) rfl rfl ?_)
local macro_rules | `(tactic| walk_at "int") => `(tactic| refine de_ty rfl (Bn.int (by assumption)) boot_int (by decide) (by decide) ?_)
local macro_rules | `(tactic| walk_at "bool") => `(tactic| refine de_ty rfl (Bn.bool (by assumption)) boot_bool (by decide) (by decide) ?_)
local macro_rules | `(tactic| walk_at "tuple") => `(tactic| refine de_ty rfl (Bn.tuple (by assumption)) boot_tuple (by decide) (by decide) ?_)
local macro_rules | `(tactic| walk_at "list") => `(tactic| refine de_ty rfl (Bn.list (by assumption)) boot_list (by decide) (by decide) ?_)
local macro_rules | `(tactic| walk_at "len") => `(tactic| refine de_callB call_len_seq rfl (Bn.len (by assumption)) boot_len (by decide) (by decide) rfl rfl ?_)

local macro_rules | `(tactic| walk_at "tupof") => `(tactic| refine de_callTy call_tuple_of rfl (Bn.tuple (by assumption)) boot_tuple (by decide) (by decide) rfl rfl ?_)
local macro_rules | `(tactic| walk_at "all") => `(tactic| refine de_callB (cr_all rfl) rfl (Bn.all (by assumption)) boot_all (by decide) (by decide) rfl rfl ?_)
local macro_rules | `(tactic| walk_at "any") => `(tactic| refine de_callB (cr_any rfl) rfl (Bn.any (by assumption)) boot_any (by decide) (by decide) rfl rfl ?_)
local macro_rules | `(tactic| walk_at "val") => `(tactic| refine dt_val (by intro _; rfl) ?_)
local macro_rules | `(tactic| walk_at "T") => `(tactic| refine iT (by first | rfl | assumption) ?_)
local macro_rules | `(tactic| walk_at "F") => `(tactic| refine iF (by first | rfl | assumption) ?_)
local macro_rules | `(tactic| walk_at "lc") => `(tactic| refine de_lc (Oz := []) rfl (by assumption) (blkOk_by (by kernel_rfl)) (by decide) (by intro _; rfl) ?_)
local macro_rules | `(tactic| walk_at "listof") => `(tactic| refine de_callTy call_list_of rfl (Bn.list (by assumption)) boot_list (by decide) (by decide) rfl rfl ?_)
local macro_rules | `(tactic| walk_at "max") => `(tactic| refine de_callB (cr_maxT rfl (room9 (by assumption))) rfl (Bn.max (by assumption)) boot_max (by decide) (by decide) rfl rfl ?_)
local macro_rules | `(tactic| walk_at "min") => `(tactic| refine de_callB (cr_minT rfl (room9 (by assumption))) rfl (Bn.min (by assumption)) boot_min (by decide) (by decide) rfl rfl ?_)
local macro_rules | `(tactic| walk_at "rng1") => `(tactic| refine di_rng1 rfl (Bn.range (by assumption)) rfl ?_)
local macro_rules | `(tactic| walk_at "lrng1") => `(tactic| refine de_listRg1 rfl (Bn.list (by assumption)) rfl (Bn.range (by assumption)) rfl rfl rfl ?_)
local macro_rules | `(tactic| walk_at "lrng2") => `(tactic| refine de_listRg2 rfl (Bn.list (by assumption)) rfl (Bn.range (by assumption)) rfl rfl rfl rfl rfl ?_)
local macro_rules | `(tactic| walk_at "expr") => `(tactic| refine ds_expr rfl ?_)
local macro_rules | `(tactic| walk_at "sortedP") => `(tactic| refine de_callB cr_sortedPO rfl (Bn.sorted (by assumption)) boot_sorted (by decide) (by decide) rfl rfl ?_)
local macro_rules | `(tactic| walk_at "intof") => `(tactic| refine de_callTy call_int1 rfl (Bn.int (by assumption)) boot_int (by decide) (by decide) rfl rfl ?_)
local macro_rules | `(tactic| walk_at "abs") => `(tactic| refine de_callB call_abs rfl (Bn.abs (by assumption)) boot_abs (by decide) (by decide) rfl rfl ?_)
local macro_rules | `(tactic| walk_at "min2") => `(tactic| refine de_callB (call_min2 rfl) rfl (Bn.min (by assumption)) boot_min (by decide) (by decide) rfl rfl ?_)
section
abbrev sDivisor : Stmt := topS 11
abbrev sLowest : Stmt := topS 12
theorem scDivisor : FnScope ["one", "other"] ["one", "other"] (defScope sDivisor) := ⟨rfl, rfl, rfl, by decide +kernel, rfl, by decide +kernel, by decide +kernel⟩
theorem scLowest : FnScope ["top", "bottom", "by"] ["top", "bottom"] (defScope sLowest) := ⟨rfl, rfl, rfl, by decide +kernel, rfl, by decide +kernel, by decide +kernel⟩
def fsDivisor : FS := fun ds O post => ∃ a b : Int, ds = [.int a, .int b] ∧ 0 ≤ b ∧ O = [] ∧ post (.int (Int.gcd a b)) []
def fsLowest : FS := fun ds O post => ∃ a b : Int, ds = [.int a, .int b] ∧ 0 < b ∧ b < 2 ^ 29 ∧ O = [] ∧ post (.tup [.int (a / Int.gcd a b), .int (b / Int.gcd a b)]) []
section
variable {P : Program} {w : World} {K : PySem.W.Frag} {mg : Str → Option Value} {base : Heap} {f : Addr} {fd : FuncData}
theorem gcd_step {a b : Int} (h : 0 < b) : Int.gcd b (a % b) = Int.gcd a b := by
  rw [Int.emod_def, Int.gcd_sub_mul_left_right, Int.gcd_comm]
theorem ok_divisor (F : FnP K "divisor" sDivisor f fd) (B : Bn mg) : FnOk P w K mg base CX0 1 f fd ["one", "other"] (spD P w fsDivisor) := by
  refine fokX F scDivisor (fun ds O post h => ?_) (fun cdv A outer s H E ds O post hr h => ?_)
  · obtain ⟨a, b, rfl, _⟩ := h; rfl
  · obtain ⟨a, b, rfl, hb, rfl, k⟩ := h
    have hN := scDivisor.nd
    walk_at "d"
    refine ds_while .never (fun m ρ O => ∃ x y : Int, ρ = [some (.int x), some (.int y)] ∧ O = [] ∧ 0 ≤ y ∧ m = y.toNat ∧ Int.gcd x y = Int.gcd a b) b.toNat ⟨a, b, rfl, rfl, hb, rfl, rfl⟩ ?_
    rintro m ρ O ⟨x, y, rfl, rfl, hy, rfl, hg⟩
    refine dt_cmpR op_ne (nomark _) ?_
    repeat walk_at "d"
    refine rd_neI ⟨_, rfl, ?_⟩
    by_cases h0 : y = 0
    · rw [if_neg (by simp [h0])]
      repeat walk_at "d"
      refine de_callB call_abs rfl B.abs boot_abs (by decide) (by decide) rfl rfl ?_
      repeat walk_at "d"
      refine rc_abs ?_
      have e : (if x < 0 then -x else x) = (Int.gcd a b : Int) := by
        rw [← hg, h0, Int.gcd_zero_right]
        split <;> omega
      rw [e]
      exact k
    · rw [if_pos (by simp [h0])]
      walk_at "d"
      refine ds_par rfl hN (ixOf_at rfl) (ixOf_at rfl) (by decide) rfl rfl rfl rfl ?_
      repeat walk_at "d"
      refine de_op op_mod ?_
      repeat walk_at "d"
      have hy' : 0 < y := by omega
      refine rd_I hy' ?_
      repeat walk_at "d"
      refine ⟨_, _, rfl, dss_nil ⟨_, ?_, _, _, rfl, rfl, Int.emod_nonneg _ (by omega), rfl, ?_⟩⟩
      · have := Int.emod_lt_of_pos x hy'
        omega
      · rw [← hg]; exact gcd_step hy'

/-! ### is_whole, is_ratio, told -/
abbrev sIsWhole : Stmt := topS 9
theorem scIsWhole : FnScope ["value"] ["value"] (defScope sIsWhole) := ⟨rfl, rfl, rfl, by decide +kernel, rfl, by decide +kernel, by decide +kernel⟩
def fsIsWhole : FS := fun ds O post => ∃ d T b1 b2, ds = [d] ∧ tyOf d = some T ∧ kitB T "int" = some b1 ∧ kitB T "bool" = some b2 ∧ O = [] ∧ post (.bl (b1 && !b2)) []
theorem ok_is_whole (F : FnP K "is_whole" sIsWhole f fd) (B : Bn mg) : FnOk P w K mg base CX0 1 f fd ["value"] (spD P w fsIsWhole) := by
  refine fokX F scIsWhole (fun ds O post h => ?_) (fun cdv A outer s H E ds O post hr h => ?_)
  · obtain ⟨d, T, b1, b2, rfl, _⟩ := h; rfl
  · obtain ⟨d, T, b1, b2, rfl, ht, k1, k2, rfl, k⟩ := h
    have hN := scIsWhole.nd
    repeat walk_at "d"
    walk_at "isi"
    repeat walk_at "d"
    walk_at "int"
    walk_at "d"
    refine rc_isi ht k1 ⟨_, rfl, ?_⟩
    cases b1 with
    | false =>
      rw [if_neg (by simp)]
      exact k
    | true =>
      rw [if_pos rfl]
      repeat walk_at "d"
      walk_at "isi"
      repeat walk_at "d"
      walk_at "bool"
      walk_at "d"
      refine rc_isi ht k2 ⟨_, rfl, ?_⟩
      exact k
end
end
section
/-- a number as a caller passes it -/
def PNum (d : D) (a b : Int) : Prop := (d = .int a ∧ b = 1) ∨ (d = .tup [.int a, .int b] ∧ 0 < b) ∨ (d = .lst [.int a, .int b] ∧ 0 < b)
theorem PNum.pos {d : D} {a b : Int} (h : PNum d a b) : 0 < b := by
  rcases h with ⟨_, rfl⟩ | ⟨_, h⟩ | ⟨_, h⟩
  · decide
  · exact h
  · exact h
/-- in lowest terms -/
def redD (a b : Int) : D := .tup [.int (a / Int.gcd a b), .int (b / Int.gcd a b)]
def fsIsRatio : FS := fun ds O post => ∃ d a b, ds = [d] ∧ PNum d a b ∧ O = [] ∧ post (.bl true) []
def fsTold : FS := fun ds O post => ∃ d a b x, ds = [d, .str x] ∧ PNum d a b ∧ b < 2 ^ 29 ∧ O = [] ∧ post (redD a b) []
theorem kb_ii : kitB "int" "int" = some true := rfl
theorem kb_ib : kitB "int" "bool" = some false := rfl
theorem kb_ti : kitB "tuple" "int" = some false := rfl
theorem kb_tb : kitB "tuple" "bool" = some false := rfl
theorem kb_li : kitB "list" "int" = some false := rfl
theorem kb_lb : kitB "list" "bool" = some false := rfl
theorem kb_tt : kitB "tuple" "tuple" = some true := rfl
theorem kb_tl : kitB "tuple" "list" = some false := rfl
theorem kb_lt : kitB "list" "tuple" = some false := rfl
theorem kb_ll : kitB "list" "list" = some true := rfl
abbrev sIsRatio : Stmt := topS 10
theorem scIsRatio : FnScope ["value"] ["value"] (defScope sIsRatio) := ⟨rfl, rfl, rfl, by decide +kernel, rfl, by decide +kernel, by decide +kernel⟩
abbrev sTold : Stmt := topS 13
theorem scTold : FnScope ["value", "what"] ["value", "what"] (defScope sTold) := ⟨rfl, rfl, rfl, by decide +kernel, rfl, by decide +kernel, by decide +kernel⟩
section
variable {P : Program} {w : World} {K : PySem.W.Frag} {mg : Str → Option Value} {base : Heap} {f : Addr} {fd : FuncData}
theorem ok_lowest (F : FnP K "lowest" sLowest f fd) (G : Std P w K mg base 1 "divisor" ["one", "other"] fsDivisor) : FnOk P w K mg base CX0 2 f fd ["top", "bottom"] (spD P w fsLowest) := by
  refine fokX F scLowest (fun ds O post h => ?_) (fun cdv A outer s H E ds O post hr h => ?_)
  · obtain ⟨a, b, rfl, _⟩ := h; rfl
  · obtain ⟨a, b, rfl, hb, hb2, rfl, k⟩ := h
    have hN := scLowest.nd
    repeat walk_at "d"
    refine de_c0 G hr (by decide) rfl (by decide) rfl rfl ?_
    repeat walk_at "d"
    have hg1 : (0 : Int) < Int.gcd a b := by exact_mod_cast Int.gcd_pos_of_ne_zero_right a (by omega)
    have hg2 : (Int.gcd a b : Int) < 1073741824 := by
      have h1 := Int.le_of_dvd hb (Int.gcd_dvd_right a b)
      omega
    refine ⟨a, b, rfl, by omega, rfl, ?_⟩
    repeat walk_at "d"
    refine de_op op_fdiv ?_
    repeat walk_at "d"
    refine rd_I ⟨hg1, hg2⟩ ?_
    repeat walk_at "d"
    refine de_op op_fdiv ?_
    repeat walk_at "d"
    refine rd_I ⟨hg1, hg2⟩ ?_
    repeat walk_at "d"
    exact ⟨sz rfl, k⟩
theorem ok_is_ratio (F : FnP K "is_ratio" sIsRatio f fd) (B : Bn mg) (G : Std P w K mg base 1 "is_whole" ["value"] fsIsWhole) : FnOk P w K mg base CX0 2 f fd ["value"] (spD P w fsIsRatio) := by
  refine fokX F scIsRatio (fun ds O post h => ?_) (fun cdv A outer s H E ds O post hr h => ?_)
  · obtain ⟨d, a, b, rfl, _⟩ := h; rfl
  · obtain ⟨d, a, b, rfl, hp, rfl, k⟩ := h
    have hN := scIsRatio.nd
    repeat walk_at "d"
    walk_at "val"
    refine de_c0 G hr (by decide) rfl (by decide) rfl rfl ?_
    repeat walk_at "d"
    rcases hp with ⟨rfl, rfl⟩ | hp
    · refine ⟨_, _, _, _, rfl, rfl, kb_ii, kb_ib, rfl, _, rfl, ?_⟩
      walk_at "T"
      repeat walk_at "d"
      exact k
    obtain ⟨T, b1, b2, hT, k1, k2, k3, k4, k5, hq⟩ : ∃ T b1 b2, tyOf d = some T ∧ kitB T "int" = some false ∧ kitB T "bool" = some false ∧ kitB T "tuple" = some b1 ∧ kitB T "list" = some b2 ∧ (b1 || b2) = true ∧ ∀ O, SqD d O [.int a, .int b] := by
      rcases hp with ⟨rfl, _⟩ | ⟨rfl, _⟩
      · exact ⟨_, _, _, rfl, kb_ti, kb_tb, kb_tt, kb_tl, rfl, fun _ => sqd_t⟩
      · exact ⟨_, _, _, rfl, kb_li, kb_lb, kb_lt, kb_ll, rfl, fun _ => sqd_l⟩
    have hb : 0 < b := by rcases hp with ⟨_, h⟩ | ⟨_, h⟩ <;> exact h
    refine ⟨_, _, _, _, rfl, hT, k1, k2, rfl, _, rfl, ?_⟩
    walk_at "F"
    repeat walk_at "d"
    walk_at "val"
    walk_at "isiT"
    repeat walk_at "d"
    walk_at "tuple"
    repeat walk_at "d"
    walk_at "list"
    repeat walk_at "d"
    refine ⟨by decide, ?_⟩
    repeat walk_at "d"
    refine rc_isiT hT k3 k4 ⟨_, rfl, ?_⟩
    refine iF (by rw [k5]; rfl) ?_
    repeat walk_at "d"
    refine dt_cmpR op_ne (nomark _) ?_
    walk_at "len"
    repeat walk_at "d"
    refine rc_len (hq _) ?_
    repeat walk_at "d"
    refine rd_neI ⟨_, rfl, ?_⟩
    walk_at "F"
    repeat walk_at "d"
    refine de_c0 G hr (by decide) rfl (by decide) rfl rfl ?_
    repeat walk_at "d"
    refine ⟨_, _, _, hq _, rfl, rfl, ?_⟩
    repeat walk_at "d"
    refine ⟨_, _, _, _, rfl, rfl, kb_ii, kb_ib, rfl, _, rfl, ?_⟩
    walk_at "T"
    repeat walk_at "d"
    refine de_c0 G hr (by decide) rfl (by decide) rfl rfl ?_
    repeat walk_at "d"
    refine ⟨_, _, _, hq _, rfl, rfl, ?_⟩
    repeat walk_at "d"
    refine ⟨_, _, _, _, rfl, rfl, kb_ii, kb_ib, rfl, _, rfl, ?_⟩
    walk_at "T"
    repeat walk_at "d"
    refine de_cmpR op_gt (nomark _) ?_
    repeat walk_at "d"
    refine ⟨_, _, _, hq _, rfl, rfl, ?_⟩
    repeat walk_at "d"
    refine rd_B0 ?_
    rw [decide_eq_true hb]
    exact k
theorem ok_told (F : FnP K "told" sTold f fd) (G1 : Std P w K mg base 1 "is_whole" ["value"] fsIsWhole) (G2 : Std P w K mg base 2 "is_ratio" ["value"] fsIsRatio) (G3 : Std P w K mg base 2 "lowest" ["top", "bottom"] fsLowest) :
    FnOk P w K mg base CX0 3 f fd ["value", "what"] (spD P w fsTold) := by
  refine fokX F scTold (fun ds O post h => ?_) (fun cdv A outer s H E ds O post hr h => ?_)
  · obtain ⟨d, a, b, x, rfl, _⟩ := h; rfl
  · obtain ⟨d, a, b, x, rfl, hp, hb2, rfl, k⟩ := h
    have hN := scTold.nd
    repeat walk_at "d"
    walk_at "val"
    refine de_c0 G2 hr (by decide) rfl (by decide) rfl rfl ?_
    repeat walk_at "d"
    refine ⟨_, _, _, rfl, hp, rfl, _, rfl, ?_⟩
    walk_at "F"
    repeat walk_at "d"
    walk_at "val"
    refine de_c0 G1 hr (by decide) rfl (by decide) rfl rfl ?_
    repeat walk_at "d"
    rcases hp with ⟨rfl, rfl⟩ | hp
    · refine ⟨_, _, _, _, rfl, rfl, kb_ii, kb_ib, rfl, _, rfl, ?_⟩
      walk_at "T"
      repeat walk_at "d"
      refine ⟨sz rfl, ?_⟩
      have e : redD a 1 = .tup [.int a, .int 1] := by simp [redD]
      rw [e] at k
      exact k
    obtain ⟨T, hT, k1, k2, hq⟩ : ∃ T, tyOf d = some T ∧ kitB T "int" = some false ∧ kitB T "bool" = some false ∧ ∀ O, SqD d O [.int a, .int b] := by
      rcases hp with ⟨rfl, _⟩ | ⟨rfl, _⟩
      · exact ⟨_, rfl, kb_ti, kb_tb, fun _ => sqd_t⟩
      · exact ⟨_, rfl, kb_li, kb_lb, fun _ => sqd_l⟩
    have hb : 0 < b := by rcases hp with ⟨_, h⟩ | ⟨_, h⟩ <;> exact h
    refine ⟨_, _, _, _, rfl, hT, k1, k2, rfl, _, rfl, ?_⟩
    walk_at "F"
    refine de_c0 G3 hr (by decide) rfl (by decide) rfl rfl ?_
    repeat walk_at "d"
    refine ⟨_, _, _, hq _, rfl, rfl, ?_⟩
    repeat walk_at "d"
    refine ⟨_, _, _, hq _, rfl, rfl, ?_⟩
    repeat walk_at "d"
    exact ⟨_, _, rfl, hb, hb2, rfl, k⟩
end
end
section
theorem lcm_ok {F B s : Int} (hF : 0 < F) (hB : 0 < B) (h1 : F ∣ s) (h2 : B ∣ s) : 0 < F / Int.gcd F B * B ∧ F ∣ F / Int.gcd F B * B ∧ B ∣ F / Int.gcd F B * B ∧ F / Int.gcd F B * B ∣ s := by
  obtain ⟨m, rfl⟩ := Int.eq_ofNat_of_zero_le (Int.le_of_lt hF)
  obtain ⟨n, rfl⟩ := Int.eq_ofNat_of_zero_le (Int.le_of_lt hB)
  have hm : 0 < m := by omega
  have hn : 0 < n := by omega
  have e : ((m : Int) / (Int.gcd (m : Int) (n : Int) : Nat) * (n : Int)) = ((Nat.lcm m n : Nat) : Int) := by
    rw [Int.gcd_natCast_natCast, ← Int.natCast_ediv, ← Int.natCast_mul, Nat.div_mul_right_comm (Nat.gcd_dvd_left m n)]
    rfl
  rw [e]
  refine ⟨by exact_mod_cast Nat.lcm_pos hm hn, Int.natCast_dvd_natCast.mpr (Nat.dvd_lcm_left m n), Int.natCast_dvd_natCast.mpr (Nat.dvd_lcm_right m n), ?_⟩
  rw [Int.ofNat_dvd_left] at h1 h2 ⊢
  exact Nat.lcm_dvd h1 h2
def fsBottom : FS := fun ds O post => ∃ (ps : List (Int × Int)) (s : Int), ds = [.lst (ps.map pD)] ∧ 0 < s ∧ s ≤ 1000 ∧ (∀ p ∈ ps, 0 < p.2 ∧ p.2 ∣ s) ∧ O = [] ∧ ∀ t, 0 < t → t ∣ s → (∀ p ∈ ps, p.2 ∣ t) → post (.int t) []
abbrev sBottom : Stmt := topS 14
theorem scBottom : FnScope ["ratios", "found", "top", "bottom"] ["ratios"] (defScope sBottom) := ⟨rfl, rfl, rfl, by decide +kernel, rfl, by decide +kernel, by decide +kernel⟩
def fsCommon : FS := fun ds O post => ∃ a b : Int, ds = [.int a, .int b] ∧ 0 ≤ a ∧ 0 ≤ b ∧ O = [] ∧ post (.int (Int.gcd a b)) []
abbrev sCommon : Stmt := topS 20
theorem scCommon : FnScope ["one", "other"] ["one", "other"] (defScope sCommon) := ⟨rfl, rfl, rfl, by decide +kernel, rfl, by decide +kernel, by decide +kernel⟩
def fsScale : FS := fun ds O post => ∃ (rs : List Row) (s : Int), ds = [.tup (rs.map rowD)] ∧ 0 < s ∧ s ≤ 1000 ∧ (∀ r ∈ rs, ∀ p ∈ r.2, 0 < p.2 ∧ p.2 ∣ s) ∧ O = [] ∧ ∀ t, 0 < t → t ∣ s → (∀ r ∈ rs, ∀ p ∈ r.2, p.2 ∣ t) → post (.int t) []
abbrev sScale : Stmt := topS 21
theorem scScale : FnScope ["rows", "scale", "weight", "numbers", "top", "bottom"] ["rows"] (defScope sScale) := ⟨rfl, rfl, rfl, by decide +kernel, rfl, by decide +kernel, by decide +kernel⟩
def wholeR (t : Int) (r : Row) : WRow := (r.1, r.2.map fun p => p.1 * t / p.2)
def fsWhole : FS := fun ds O post => ∃ (rs : List Row) (t : Int), ds = [.tup (rs.map rowD), .int t] ∧ 0 < t ∧ t ≤ 1000 ∧ rs.length ≤ 1000 ∧ (∀ r ∈ rs, r.2.length ≤ 1000 ∧ ∀ p ∈ r.2, 0 < p.2 ∧ p.2 ≤ 1000) ∧ O = [] ∧ post (.lst ((rs.map (wholeR t)).map wrowD)) []
abbrev sWhole : Stmt := topS 22
theorem scWhole : FnScope ["rows", "scale", "weight", "numbers", "top", "bottom"] ["rows", "scale"] (defScope sWhole) := ⟨rfl, rfl, rfl, by decide +kernel, rfl, by decide +kernel, by decide +kernel⟩
section
variable {P : Program} {w : World} {K : PySem.W.Frag} {mg : Str → Option Value} {base : Heap} {f : Addr} {fd : FuncData}
theorem sz1000 {n : Nat} (h : n ≤ 1000) : n ≤ sizeLine := Nat.le_trans h (by decide)
theorem ok_common (F : FnP K "common_divisor" sCommon f fd) : FnOk P w K mg base CX0 1 f fd ["one", "other"] (spD P w fsCommon) := by
  refine fokX F scCommon (fun ds O post h => ?_) (fun cdv A outer s H E ds O post hr h => ?_)
  · obtain ⟨a, b, rfl, _⟩ := h; rfl
  · obtain ⟨a, b, rfl, ha, hb, rfl, k⟩ := h
    have hN := scCommon.nd
    walk_at "d"
    refine ds_while .never (fun m ρ O => ∃ x y : Int, ρ = [some (.int x), some (.int y)] ∧ O = [] ∧ 0 ≤ x ∧ 0 ≤ y ∧ m = y.toNat ∧ Int.gcd x y = Int.gcd a b) b.toNat ⟨a, b, rfl, rfl, ha, hb, rfl, rfl⟩ ?_
    rintro m ρ O ⟨x, y, rfl, rfl, hx, hy, rfl, hg⟩
    refine dt_cmpR op_gt (nomark _) ?_
    repeat walk_at "d"
    refine rd_B0 ⟨_, rfl, ?_⟩
    by_cases h0 : 0 < y
    · refine iT (by simp [h0]) ?_
      walk_at "d"
      refine ds_par rfl hN (ixOf_at rfl) (ixOf_at rfl) (by decide) rfl rfl rfl rfl ?_
      repeat walk_at "d"
      refine de_op op_mod ?_
      repeat walk_at "d"
      refine rd_I h0 ?_
      repeat walk_at "d"
      refine ⟨_, _, rfl, dss_nil ⟨_, ?_, _, _, rfl, rfl, hy, Int.emod_nonneg _ (by omega), rfl, ?_⟩⟩
      · have := Int.emod_lt_of_pos x h0
        omega
      · rw [← hg]; exact gcd_step h0
    · refine iF (by simp [h0]) ?_
      repeat walk_at "d"
      have e : x = (Int.gcd a b : Int) := by
        rw [← hg, show y = 0 by omega, Int.gcd_zero_right]
        omega
      show post (.int x) _
      rw [e]
      exact k
theorem ok_bottom (F : FnP K "bottom_of" sBottom f fd) (G : Std P w K mg base 1 "divisor" ["one", "other"] fsDivisor) : FnOk P w K mg base CX0 2 f fd ["ratios"] (spD P w fsBottom) := by
  refine fokX F scBottom (fun ds O post h => ?_) (fun cdv A outer s H E ds O post hr h => ?_)
  · obtain ⟨ps, s, rfl, _⟩ := h; rfl
  · obtain ⟨ps, sc, rfl, hs, hs2, hp, rfl, k⟩ := h
    have hN := scBottom.nd
    repeat walk_at "d"
    refine ds_for .never rfl (by intro _; rfl) (ts := [2, 3]) (di_lst ?_)
    repeat walk_at "d"
    refine ⟨_, rfl, fun i ρ O => i ≤ ps.length ∧ ∃ t o1 o2, ρ = [some (.lst (ps.map pD)), some (.int t), o1, o2] ∧ O = [] ∧ 0 < t ∧ t ∣ sc ∧ ∀ p ∈ ps.take i, p.2 ∣ t, ⟨Nat.zero_le _, 1, none, none, rfl, rfl, by decide, Int.one_dvd _, by simp⟩, fun i d ρ O hd ⟨hi, t, o1, o2, e1, e2, h1, h2, h3⟩ => ?_, fun ρ O ⟨hi, t, o1, o2, e1, e2, h1, h2, h3⟩ => ?_⟩
    · subst e1 e2
      obtain ⟨p, hpi, rfl⟩ := map_get hd
      obtain ⟨hlt, _⟩ := List.getElem?_eq_some_iff.mp hpi
      obtain ⟨hb, hbs⟩ := hp p (List.mem_of_getElem? hpi)
      obtain ⟨l1, l2, l3, l4⟩ := lcm_ok h1 hb h2 hbs
      unfold pD
      repeat walk_at "d"
      refine de_op op_mul ?_
      refine de_op op_fdiv ?_
      repeat walk_at "d"
      refine de_c0 G hr (by decide) rfl (by decide) rfl rfl ?_
      repeat walk_at "d"
      have hg1 : (0 : Int) < Int.gcd t p.2 := by exact_mod_cast Int.gcd_pos_of_ne_zero_right t (by omega)
      have ht : t ≤ sc := Int.le_of_dvd hs h2
      have hg2 : (Int.gcd t p.2 : Int) ≤ t := Int.le_of_dvd h1 (Int.gcd_dvd_left t p.2)
      have hb2 : p.2 ≤ sc := Int.le_of_dvd hs hbs
      refine ⟨_, _, rfl, by omega, rfl, rd_I ⟨hg1, by omega⟩ ?_⟩
      repeat walk_at "d"
      refine rd_I (.inr ⟨by omega, by omega⟩) ?_
      repeat walk_at "d"
      refine ⟨hlt, _, _, _, rfl, rfl, l1, l4, ?_⟩
      rw [List.take_add_one, hpi]
      intro q hq
      rcases List.mem_append.mp hq with hq | hq
      · exact Int.dvd_trans (h3 q hq) l2
      · simp at hq; subst hq; exact l3
    · subst e1 e2
      repeat walk_at "d"
      rw [List.length_map, List.take_length] at h3
      exact k t h1 h2 h3
theorem ok_scale (F : FnP K "scale_of" sScale f fd) (G : Std P w K mg base 1 "common_divisor" ["one", "other"] fsCommon) : FnOk P w K mg base CX0 2 f fd ["rows"] (spD P w fsScale) := by
  refine fokX F scScale (fun ds O post h => ?_) (fun cdv A outer s H E ds O post hr h => ?_)
  · obtain ⟨ps, s, rfl, _⟩ := h; rfl
  · obtain ⟨rs, sc, rfl, hs, hs2, hp, rfl, k⟩ := h
    have hN := scScale.nd
    repeat walk_at "d"
    refine ds_for .never rfl (by intro _; rfl) (ts := [2, 3]) (di_tup ?_)
    repeat walk_at "d"
    refine ⟨_, rfl, fun i ρ O => i ≤ rs.length ∧ ∃ t o1 o2 o3 o4, ρ = [some (.tup (rs.map rowD)), some (.int t), o1, o2, o3, o4] ∧ O = [] ∧ 0 < t ∧ t ∣ sc ∧ ∀ r ∈ rs.take i, ∀ p ∈ r.2, p.2 ∣ t, ⟨Nat.zero_le _, 1, none, none, none, none, rfl, rfl, by decide, Int.one_dvd _, by simp⟩, fun i d ρ O hd ⟨hi, t, o1, o2, o3, o4, e1, e2, h1, h2, h3⟩ => ?_, fun ρ O ⟨hi, t, o1, o2, o3, o4, e1, e2, h1, h2, h3⟩ => ?_⟩
    · subst e1 e2
      obtain ⟨r, hri, rfl⟩ := map_get hd
      obtain ⟨hlt, _⟩ := List.getElem?_eq_some_iff.mp hri
      have hpr := hp r (List.mem_of_getElem? hri)
      unfold rowD
      repeat walk_at "d"
      refine ds_for .never rfl (by intro _; rfl) (ts := [4, 5]) (di_tup ?_)
      repeat walk_at "d"
      refine ⟨_, rfl, fun j ρ O => j ≤ r.2.length ∧ ∃ t' o3 o4, ρ = [some (.tup (rs.map rowD)), some (.int t'), some (.int r.1), some (.tup (r.2.map pD)), o3, o4] ∧ O = [] ∧ 0 < t' ∧ t' ∣ sc ∧ t ∣ t' ∧ ∀ p ∈ r.2.take j, p.2 ∣ t', ⟨Nat.zero_le _, t, _, _, rfl, rfl, h1, h2, Int.dvd_refl _, by simp⟩, fun j d ρ O hd ⟨hj, t', o3, o4, e1, e2, k1, k2, k4, k3⟩ => ?_, fun ρ O ⟨hj, t', o3, o4, e1, e2, k1, k2, k4, k3⟩ => ?_⟩
      · subst e1 e2
        obtain ⟨p, hpi, rfl⟩ := map_get hd
        obtain ⟨hltj, _⟩ := List.getElem?_eq_some_iff.mp hpi
        obtain ⟨hb, hbs⟩ := hpr p (List.mem_of_getElem? hpi)
        obtain ⟨l1, l2, l3, l4⟩ := lcm_ok k1 hb k2 hbs
        unfold pD
        repeat walk_at "d"
        refine de_op op_mul ?_
        refine de_op op_fdiv ?_
        repeat walk_at "d"
        refine de_c0 G hr (by decide) rfl (by decide) rfl rfl ?_
        repeat walk_at "d"
        have hg1 : (0 : Int) < Int.gcd t' p.2 := by exact_mod_cast Int.gcd_pos_of_ne_zero_right t' (by omega)
        have ht : t' ≤ sc := Int.le_of_dvd hs k2
        have hg2 : (Int.gcd t' p.2 : Int) ≤ t' := Int.le_of_dvd k1 (Int.gcd_dvd_left t' p.2)
        have hb2 : p.2 ≤ sc := Int.le_of_dvd hs hbs
        refine ⟨_, _, rfl, by omega, by omega, rfl, rd_I ⟨hg1, by omega⟩ ?_⟩
        repeat walk_at "d"
        refine rd_I (.inr ⟨by omega, by omega⟩) ?_
        repeat walk_at "d"
        refine ⟨hltj, _, _, _, rfl, rfl, l1, l4, Int.dvd_trans k4 l2, ?_⟩
        rw [List.take_add_one, hpi]
        intro q hq
        rcases List.mem_append.mp hq with hq | hq
        · exact Int.dvd_trans (k3 q hq) l2
        · simp at hq; subst hq; exact l3
      · subst e1 e2
        repeat walk_at "d"
        rw [List.length_map, List.take_length] at k3
        refine ⟨hlt, t', _, _, _, _, rfl, rfl, k1, k2, ?_⟩
        rw [List.take_add_one, hri]
        intro q hq p hp
        rcases List.mem_append.mp hq with hq | hq
        · exact Int.dvd_trans (h3 q hq p hp) k4
        · simp at hq; subst hq; exact k3 p hp
    · subst e1 e2
      repeat walk_at "d"
      rw [List.length_map, List.take_length] at h3
      exact k t h1 h2 h3
theorem ok_whole (F : FnP K "whole_rows" sWhole f fd) : FnOk P w K mg base CX0 1 f fd ["rows", "scale"] (spD P w fsWhole) := by
  refine fokX F scWhole (fun ds O post h => ?_) (fun cdv A outer s H E ds O post hr h => ?_)
  · obtain ⟨ps, s, rfl, _⟩ := h; rfl
  · obtain ⟨rs, t, rfl, ht, ht2, hl, hp, rfl, k⟩ := h
    have hN := scWhole.nd
    repeat walk_at "d"
    refine de_lc (Oz := []) (own := [("weight", 2), ("numbers", 3)]) rfl hN (blkOk_by (by kernel_rfl)) (by decide) (by intro _; rfl) (di_tup ?_)
    repeat walk_at "d"
    refine ⟨_, rfl, lcd_map rs rowD (fun r => wrowD (wholeR t r)) (sz1000 hl) rfl (fun r hr => ?_) ?_⟩
    · obtain ⟨h1, h2⟩ := hp r hr
      intro _ _ _ _ _
      unfold rowD
      repeat walk_at "d"
      intro _ _ _ _ _
      repeat walk_at "d"
      refine de_lc (Oz := []) (own := [("top", 4), ("bottom", 5)]) rfl hN (blkOk_by (by kernel_rfl)) (by decide) (by intro _; rfl) (di_tup ?_)
      repeat walk_at "d"
      refine ⟨_, rfl, lcd_map r.2 pD (fun p => .int (p.1 * t / p.2)) (sz1000 h1) rfl (fun p hp => ?_) ?_⟩
      · obtain ⟨h3, h4⟩ := h2 p hp
        intro _ _ _ _ _
        unfold pD
        repeat walk_at "d"
        intro _ _ _ _ _
        refine de_op op_fdiv ?_
        refine de_op op_mul ?_
        repeat walk_at "d"
        refine rd_I (.inr ⟨by omega, by omega⟩) ?_
        repeat walk_at "d"
        refine rd_I ⟨h3, by omega⟩ ?_
        exact ⟨rfl, rfl⟩
      · repeat walk_at "d"
        refine ⟨sz rfl, ?_, rfl⟩
        simp [wrowD, wholeR]
    · rw [List.map_map] at k
      exact k
end
end
section
/-! ### orders_of -/
def permsF : Nat → List Int → List (List Int)
  | 0, _ => [[]]
  | n + 1, ns => if ns = [] then [[]] else ns.flatMap fun one => (permsF n (ns.filter fun x => !decide (x = one))).map (one :: ·)
def fb : Nat → Nat
  | 0 => 1
  | n + 1 => (n + 1) * fb n
theorem filter_lt {ns : List Int} {one : Int} (h : one ∈ ns) : (ns.filter fun x => !decide (x = one)).length < ns.length := by
  have := List.length_filter_lt_length_iff_exists (l := ns) (p := fun x => !decide (x = one))
  exact this.mpr ⟨one, h, by simp⟩
theorem fb_pos : ∀ n, 0 < fb n
  | 0 => by decide
  | n + 1 => Nat.mul_pos (Nat.succ_pos _) (fb_pos n)
theorem flatMap_len {α β : Type} {f : α → List β} {b : Nat} : ∀ {xs : List α}, (∀ x ∈ xs, (f x).length ≤ b) → (xs.flatMap f).length ≤ xs.length * b
  | [], _ => by simp
  | x :: xs, h => by
    rw [List.flatMap_cons, List.length_append, List.length_cons, Nat.succ_mul]
    have h1 := h x List.mem_cons_self
    have h2 := flatMap_len (f := f) fun y hy => h y (List.mem_cons_of_mem x hy)
    omega
theorem permsF_len : ∀ (n : Nat) (ns : List Int), ns.length ≤ n → (permsF n ns).length ≤ fb n
  | 0, ns, h => by simp [permsF, fb]
  | n + 1, ns, h => by
    unfold permsF
    split
    · exact fb_pos (n + 1)
    · refine Nat.le_trans (flatMap_len (b := fb n) fun x hx => ?_) (Nat.mul_le_mul_right _ h)
      rw [List.length_map]
      have := filter_lt hx
      exact permsF_len n _ (by omega)
theorem permsF_mem : ∀ (n : Nat) (ns l : List Int), l ∈ permsF n ns → l.length ≤ n
  | 0, ns, l, h => by simp [permsF] at h; subst h; simp
  | n + 1, ns, l, h => by
    unfold permsF at h
    split at h
    · simp at h; subst h; simp
    · obtain ⟨one, h1, h2⟩ := List.mem_flatMap.mp h
      obtain ⟨r, h3, rfl⟩ := List.mem_map.mp h2
      have := permsF_mem n _ r h3
      simp; omega
def liD (l : List Int) : D := .lst (l.map D.int)
def fsOrders (n : Nat) : FS := fun ds O post => ∃ ns : List Int, ds = [liD ns] ∧ ns.length ≤ n ∧ O = [] ∧ post (.lst ((permsF n ns).map liD)) []
abbrev sOrders : Stmt := topS 25
theorem scOrders : FnScope ["some", "one", "rest", "other"] ["some"] (defScope sOrders) := ⟨rfl, rfl, rfl, by decide +kernel, rfl, by decide +kernel, by decide +kernel⟩
section
variable {P : Program} {w : World} {K : PySem.W.Frag} {mg : Str → Option Value} {base : Heap} {f : Addr} {fd : FuncData}
theorem ok_orders0 (F : FnP K "orders_of" sOrders f fd) (B : Bn mg) : FnOk P w K mg base CX0 1 f fd ["some"] (spD P w (fsOrders 0)) := by
  refine fokX F scOrders (fun ds O post h => ?_) (fun cdv A outer s H E ds O post hr h => ?_)
  · obtain ⟨a, rfl, _⟩ := h; rfl
  · obtain ⟨ns, rfl, hl, rfl, k⟩ := h
    have e : ns = [] := List.length_eq_zero_iff.mp (by omega)
    subst e
    have hN := scOrders.nd
    unfold liD
    repeat walk_at "d"
    refine dt_cmpR op_eq (nomark _) ?_
    walk_at "len"
    repeat walk_at "d"
    refine rc_len sqd_l ?_
    repeat walk_at "d"
    refine rd_eqI ⟨_, rfl, iT rfl ?_⟩
    repeat walk_at "d"
    refine de_lst ?_
    repeat walk_at "d"
    refine de_lst ?_
    repeat walk_at "d"
    refine ⟨sz rfl, ?_⟩
    repeat walk_at "d"
    exact ⟨sz rfl, k⟩
theorem flatMap_take_succ {α β : Type} {G : α → List β} {xs : List α} {i : Nat} {x : α} (h : xs[i]? = some x) : (xs.take (i + 1)).flatMap G = (xs.take i).flatMap G ++ G x := by
  rw [List.take_add_one, h, List.flatMap_append]
  simp
theorem ok_ordersS {n : Nat} (hn : n < 4) (F : FnP K "orders_of" sOrders f fd) (B : Bn mg) (G : Std P w K mg base (n + 1) "orders_of" ["some"] (fsOrders n)) : FnOk P w K mg base CX0 (n + 2) f fd ["some"] (spD P w (fsOrders (n + 1))) := by
  refine fokX F scOrders (fun ds O post h => ?_) (fun cdv A outer s H E ds O post hr h => ?_)
  · obtain ⟨a, rfl, _⟩ := h; rfl
  · obtain ⟨ns, rfl, hl, rfl, k⟩ := h
    have hN := scOrders.nd
    unfold liD
    repeat walk_at "d"
    refine dt_cmpR op_eq (nomark _) ?_
    walk_at "len"
    repeat walk_at "d"
    refine rc_len sqd_l ?_
    repeat walk_at "d"
    refine rd_eqI ⟨_, rfl, ?_⟩
    by_cases h0 : ns = []
    · subst h0
      refine iT rfl ?_
      repeat walk_at "d"
      refine de_lst ?_
      repeat walk_at "d"
      refine de_lst ?_
      repeat walk_at "d"
      refine ⟨sz rfl, ?_⟩
      repeat walk_at "d"
      refine ⟨sz rfl, ?_⟩
      simpa [permsF, liD] using k
    · have hne : ns.length ≠ 0 := fun e => h0 (List.length_eq_zero_iff.mp e)
      refine iF (by simpa using hne) ?_
      repeat walk_at "d"
      have hfb : fb n ≤ 6 := by
        have : n = 0 ∨ n = 1 ∨ n = 2 ∨ n = 3 := by omega
        rcases this with rfl | rfl | rfl | rfl <;> decide
      refine de_lc2 (Oz := []) (Oz1 := []) (own := [("one", 1), ("rest", 2)]) (vs1 := [2]) rfl hN (blkOk_by (by kernel_rfl)) (by decide) (by intro _; rfl) (by intro _ _; rfl) (di_lst ?_)
      repeat walk_at "d"
      refine ⟨_, rfl, fun i acc O' => i ≤ ns.length ∧ acc = ((ns.take i).flatMap fun one => (permsF n (ns.filter fun x => !decide (x = one))).map (one :: ·)).map liD ∧ O' = [], ⟨Nat.zero_le _, rfl, rfl⟩, fun i d acc O' hd ⟨hi, e1, e2⟩ => ?_, fun _ _ _ _ q hq => (nomatch hq), fun acc O' ⟨_, e1, e2⟩ => ?_⟩
      · subst e1 e2
        obtain ⟨one, hone, rfl⟩ := map_get hd
        obtain ⟨hlt, _⟩ := List.getElem?_eq_some_iff.mp hone
        have hmem := List.mem_of_getElem? hone
        intro _ _ _ _ _
        repeat walk_at "d"
        intro _ _ _ _ _
        refine di_lst ?_
        refine de_c0 G hr (Nat.le_refl _) rfl (by decide) rfl rfl ?_
        walk_at "d"
        refine de_lc (Oz := []) (own := [("other", 3)]) rfl hN (blkOk_by (by kernel_rfl)) (by decide) (by intro _; rfl) (di_lst ?_)
        repeat walk_at "d"
        refine ⟨_, rfl, lcd_filter ns D.int D.int (fun x => !decide (x = one)) (sz1000 (by omega)) rfl (fun x hx => ?_) ?_⟩
        · intro _ _ _ _ _
          repeat walk_at "d"
          intro _ _ _ _ _
          refine dt_cmpR op_ne (nomark _) ?_
          repeat walk_at "d"
          refine rd_neI ⟨_, rfl, rfl, ?_⟩
          by_cases hp : (!decide (x = one)) = true
          · rw [if_pos hp]
            intro _ _ _ _ _
            repeat walk_at "d"
            exact ⟨rfl, rfl⟩
          · rw [if_neg hp]
        · repeat walk_at "d"
          have hfl := filter_lt hmem
          refine ⟨_, rfl, by omega, rfl, _, rfl, ?_⟩
          have hpl := permsF_len n (ns.filter fun x => !decide (x = one)) (by omega)
          have hacc : ((ns.take i).flatMap fun one => (permsF n (ns.filter fun x => !decide (x = one))).map (one :: ·)).length ≤ 24 := by
            refine Nat.le_trans (flatMap_len (b := 6) fun x hx => ?_) ?_
            · rw [List.length_map]
              have := filter_lt (List.mem_of_mem_take hx)
              exact Nat.le_trans (permsF_len n _ (by omega)) hfb
            · have : (ns.take i).length ≤ 4 := by simp; omega
              omega
          refine ⟨fun j acc1 O5 => j ≤ (permsF n (ns.filter fun x => !decide (x = one))).length ∧ acc1 = ((ns.take i).flatMap fun one => (permsF n (ns.filter fun x => !decide (x = one))).map (one :: ·)).map liD ++ (((permsF n (ns.filter fun x => !decide (x = one))).take j).map (one :: ·)).map liD ∧ O5 = [], ⟨Nat.zero_le _, by simp, rfl⟩, fun j d1 acc1 O5 hd1 ⟨hj, e1, e2⟩ => ?_, fun _ _ _ _ q hq => (nomatch hq), fun acc1 O5 ⟨_, e1, e2⟩ => ⟨hlt, ?_, e2⟩⟩
          · subst e1 e2
            obtain ⟨l, hl1, rfl⟩ := map_get hd1
            obtain ⟨hltj, _⟩ := List.getElem?_eq_some_iff.mp hl1
            intro _ _ _ _ _
            unfold liD
            repeat walk_at "d"
            intro _ _ _ _ _
            refine de_op op_cat ?_
            refine de_lst ?_
            repeat walk_at "d"
            refine ⟨sz rfl, ?_⟩
            repeat walk_at "d"
            have hll : l.length ≤ n := permsF_mem n _ l (List.mem_of_getElem? hl1)
            refine rd_cat (.inl rfl) (.inl rfl) (sz1000 ?_) ?_
            · rw [List.length_map]; simp; omega
            · refine ⟨?_, hltj, ?_, rfl⟩
              · rw [List.length_append, List.length_map, List.length_map, List.length_map]
                have h2 : ((permsF n (ns.filter fun x => !decide (x = one))).take j).length ≤ 6 := by rw [List.length_take]; omega
                exact Nat.lt_of_lt_of_le (show _ < 1000 by omega) (by decide)
              · rw [List.take_add_one, hl1]
                simp
          · rw [e1, flatMap_take_succ hone, List.length_map, List.take_length, List.map_append]
      · subst e1 e2
        rw [List.length_map, List.take_length]
        have e : permsF (n + 1) ns = ns.flatMap fun one => (permsF n (ns.filter fun x => !decide (x = one))).map (one :: ·) := by
          show (if ns = [] then _ else _) = _
          rw [if_neg h0]
        rw [← e]
        exact k
end
end
section
/-! ### price_tuple, offsets_of, units_taken -/
abbrev sPriceTup : Stmt := topS 23
theorem scPriceTup : FnScope ["prices", "scale", "price"] ["prices", "scale"] (defScope sPriceTup) := ⟨rfl, rfl, rfl, by decide +kernel, rfl, by decide +kernel, by decide +kernel⟩
def fsPriceTup : FS := fun ds O post => ∃ (ns : List Int) (t : Int), ds = [liD ns, .int t] ∧ 0 < t ∧ t < 2 ^ 29 ∧ ns.length ≤ 1000 ∧ O = [] ∧ post (.tup (ns.map fun n => redD n t)) []
abbrev sOffsets : Stmt := topS 27
theorem scOffsets : FnScope ["kinds", "found", "order", "kind"] ["kinds"] (defScope sOffsets) := ⟨rfl, rfl, rfl, by decide +kernel, rfl, by decide +kernel, by decide +kernel⟩
def rngI (lo : Int) (n : Nat) : List Int := (List.range n).map fun i => lo + (i : Nat)
theorem rngD_ints (lo : Int) (n : Nat) : rngD lo n = (rngI lo n).map D.int := by unfold rngD rngI; rw [List.map_map]; rfl
def idx (l : List Int) (x : Int) : Int := (l.idxOf x : Nat)
def offsF (k : Nat) : List (List Int) := (permsF 4 (rngI (-1) (k + 1))).map fun o => (rngI 0 k).map fun j => idx o j - idx o (-1)
def fsOffsets : FS := fun ds O post => ∃ k : Nat, ds = [.int (k : Int)] ∧ 1 ≤ k ∧ k ≤ 3 ∧ O = [] ∧ post (.lst ((offsF k).map liD)) []
theorem idx_get {l : List Int} {x : Int} (h : x ∈ l) : l[l.idxOf x]? = some x ∧ ∀ m, m < l.idxOf x → l[m]? ≠ some x := by
  have hl := List.idxOf_lt_length_of_mem h
  refine ⟨?_, fun m hm e => ?_⟩
  · rw [List.getElem?_eq_getElem hl, List.getElem_idxOf hl]
  · obtain ⟨h1, h2⟩ := List.getElem?_eq_some_iff.mp e
    have := List.not_of_lt_findIdx (p := (· == x)) (xs := l) (i := m) hm
    simp [h2] at this
theorem offs_mem : ∀ k, 1 ≤ k → k ≤ 3 → ∀ o ∈ permsF 4 (rngI (-1) (k + 1)), (-1 : Int) ∈ o ∧ ∀ j ∈ rngI 0 k, j ∈ o := by
  intro k h1 h2
  have : k = 1 ∨ k = 2 ∨ k = 3 := by omega
  rcases this with rfl | rfl | rfl <;> decide +kernel
section
variable {P : Program} {w : World} {K : PySem.W.Frag} {mg : Str → Option Value} {base : Heap} {f : Addr} {fd : FuncData}
theorem ok_price_tuple (F : FnP K "price_tuple" sPriceTup f fd) (B : Bn mg) (G : Std P w K mg base 3 "told" ["value", "what"] fsTold) : FnOk P w K mg base CX0 4 f fd ["prices", "scale"] (spD P w fsPriceTup) := by
  refine fokX F scPriceTup (fun ds O post h => ?_) (fun cdv A outer s H E ds O post hr h => ?_)
  · obtain ⟨a, b, rfl, _⟩ := h; rfl
  · obtain ⟨ns, t, rfl, ht, ht2, hl, rfl, k⟩ := h
    have hN := scPriceTup.nd
    unfold liD
    repeat walk_at "d"
    walk_at "tupof"
    repeat walk_at "d"
    refine de_lc (Oz := []) (own := [("price", 2)]) rfl hN (blkOk_by (by kernel_rfl)) (by decide) (by intro _; rfl) (di_lst ?_)
    repeat walk_at "d"
    refine ⟨_, rfl, lcd_map ns D.int (fun n => redD n t) (sz1000 hl) rfl (fun n hn => ?_) ?_⟩
    · intro _ _ _ _ _
      repeat walk_at "d"
      intro _ _ _ _ _
      refine de_c0 G hr (Nat.le_refl _) rfl (by decide) rfl rfl ?_
      repeat walk_at "d"
      refine ⟨sz rfl, ?_⟩
      repeat walk_at "d"
      exact ⟨_, n, t, _, rfl, .inr (.inl ⟨rfl, ht⟩), ht2, rfl, rfl, rfl⟩
    · repeat walk_at "d"
      exact rc_tup sqd_l k
theorem ok_offsets (F : FnP K "offsets_of" sOffsets f fd) (B : Bn mg) (G : Std P w K mg base 5 "orders_of" ["some"] (fsOrders 4)) : FnOk P w K mg base CX0 6 f fd ["kinds"] (spD P w fsOffsets) := by
  refine fokX F scOffsets (fun ds O post h => ?_) (fun cdv A outer s H E ds O post hr h => ?_)
  · obtain ⟨a, rfl, _⟩ := h; rfl
  · obtain ⟨k, rfl, h1, h3, rfl, kk⟩ := h
    have hN := scOffsets.nd
    repeat walk_at "d"
    refine de_lstO ?_
    repeat walk_at "d"
    refine ⟨sz rfl, fun p => ?_⟩
    repeat walk_at "d"
    refine ds_for .never rfl (by intro _; rfl) (ts := [2]) (di_lst ?_)
    refine de_c0 G hr (Nat.le_refl _) rfl (by decide) rfl rfl ?_
    walk_at "d"
    walk_at "lrng2"
    repeat walk_at "d"
    refine ⟨_, _, rfl, rfl, ⟨by decide, by decide, by omega, by omega, by omega⟩, ?_⟩
    repeat walk_at "d"
    have e1 : ((k : Int) - (-1)).toNat = k + 1 := by omega
    refine ⟨rngI (-1) (k + 1), by rw [show (-1 : Int) = -1 from rfl, e1, rngD_ints]; rfl, by simp [rngI]; omega, rfl, _, rfl, ?_⟩
    have hlen : (permsF 4 (rngI (-1) (k + 1))).length ≤ 24 := permsF_len 4 _ (by simp [rngI]; omega)
    refine ⟨fun i ρ O => i ≤ (permsF 4 (rngI (-1) (k + 1))).length ∧ ∃ o1 o2, ρ = [some (.int (k : Int)), some (.raw (.ref p)), o1, o2] ∧ O = [(p, .lst (((offsF k).take i).map liD))], ⟨Nat.zero_le _, _, _, rfl, rfl⟩, fun i d ρ O hd ⟨hi, o1, o2, e1, e2⟩ => ?_, fun ρ O ⟨hi, o1, o2, e1, e2⟩ => ?_⟩
    · subst e1 e2
      obtain ⟨o, ho, rfl⟩ := map_get hd
      obtain ⟨hlt, _⟩ := List.getElem?_eq_some_iff.mp ho
      obtain ⟨hm1, hmj⟩ := offs_mem k h1 h3 o (List.mem_of_getElem? ho)
      unfold liD
      repeat walk_at "d"
      walk_at "expr"
      refine de_append rfl rfl rfl rfl rfl ?_
      repeat walk_at "d"
      refine ⟨⟨_, sqd_own (i := 0) rfl, p, rfl⟩, ?_⟩
      repeat walk_at "d"
      refine de_lc (Oz := []) (own := [("kind", 3)]) rfl hN (blkOk_by (by kernel_rfl)) (by decide) (by intro _; rfl) ?_
      walk_at "rng1"
      repeat walk_at "d"
      refine ⟨_, rfl, by omega, by omega, ?_⟩
      rw [rngD_ints, Int.toNat_natCast]
      refine lcd_map (rngI 0 k) D.int (fun j => .int (idx o j - idx o (-1))) (sz1000 (by simp [rngI]; omega)) rfl (fun j hj => ?_) ?_
      · obtain ⟨g1, g2⟩ := idx_get (hmj j hj)
        obtain ⟨g3, g4⟩ := idx_get hm1
        intro _ _ _ _ _
        repeat walk_at "d"
        intro _ _ _ _ _
        refine de_op op_sub ?_
        refine de_index rfl rfl rfl rfl rfl ?_
        repeat walk_at "d"
        refine ⟨⟨_, rfl⟩, ?_⟩
        repeat walk_at "d"
        refine ⟨o, j, _, rfl, rfl, g1, g2, ?_⟩
        refine de_index rfl rfl rfl rfl rfl ?_
        repeat walk_at "d"
        refine ⟨⟨_, rfl⟩, ?_⟩
        repeat walk_at "d"
        refine ⟨o, -1, _, rfl, rfl, g3, g4, rd_I0 ⟨rfl, rfl⟩⟩
      · repeat walk_at "d"
        refine ⟨p, 0, _, _, rfl, rfl, rfl, ?_, dss_nil ⟨hlt, _, _, rfl, ?_⟩⟩
        · rw [List.length_map, List.length_take]
          exact Nat.lt_of_lt_of_le (show _ < 1000 by omega) (by decide)
        · have eo : (offsF k)[i]? = some ((rngI 0 k).map fun j => idx o j - idx o (-1)) := by
            unfold offsF
            rw [List.getElem?_map, ho]
            rfl
          rw [List.take_add_one, eo]
          simp [liD]
    · subst e1 e2
      rw [List.length_map] at *
      walk_at "d"
      walk_at "d"
      refine de_fz (i := 0) ?_
      repeat walk_at "d"
      refine ⟨p, _, rfl, rfl, rfl, ?_⟩
      have e : (offsF k).take (permsF 4 (rngI (-1) (k + 1))).length = offsF k := by
        rw [List.take_of_length_le]
        simp [offsF]
      show post (.lst (((offsF k).take _).map liD)) []
      rw [e]
      exact kk
/-! units -/
theorem dummy_ : True := True.intro
end
abbrev sUnits : Stmt := topS 28
theorem scUnits : FnScope ["rows", "prices", "by", "kinds", "found", "weight", "numbers", "heights", "kind", "number", "price"] ["rows", "prices", "by", "kinds"] (defScope sUnits) := ⟨rfl, rfl, rfl, by decide +kernel, rfl, by decide +kernel, by decide +kernel⟩
/-- how far a number stands above a price -/
def hgt (by_ n p : Int) : Int := if 0 < n then by_ * n - p else -1
def hgts (by_ : Int) (ns ps : List Int) : List Int := (ns.zip ps).map fun q => hgt by_ q.1 q.2
def mx (l : List Int) : Int := l.foldr max 0
/-- the first best place, if it is worth more than nothing -/
def topIx (l : List Int) : Option Nat := if 0 < mx l then some (l.idxOf (mx l)) else none
def addAt (l : List Int) (i : Nat) (x : Int) : List Int := l.set i (l.getD i 0 + x)
def unitStep (f : List Int → Option Nat) (acc : List Int) (r : WRow) : List Int := match f r.2 with | some i => addAt acc i r.1 | none => acc
def unitsF (f : List Int → Option Nat) (k : Nat) (rows : List WRow) : List Int := rows.foldl (unitStep f) (List.replicate k 0)
def bestP (by_ : Int) (ps : List Int) (ns : List Int) : Option Nat := topIx (hgts by_ ns ps)
theorem mx_ge : ∀ {l : List Int} {y : Int}, y ∈ l → y ≤ mx l
  | z :: l, y, h => by
    show y ≤ max z (mx l)
    rcases List.mem_cons.mp h with rfl | h
    · omega
    · have := mx_ge h; omega
theorem mx_mem : ∀ {l : List Int}, 0 < mx l → mx l ∈ l
  | [], h => by simp [mx] at h
  | z :: l, h => by
    have e : mx (z :: l) = max z (mx l) := rfl
    rw [e] at h ⊢
    by_cases hz : mx l ≤ z
    · rw [show max z (mx l) = z by omega]; exact List.mem_cons_self
    · rw [show max z (mx l) = mx l by omega]
      exact List.mem_cons_of_mem _ (mx_mem (by omega))
theorem mx_nonneg : ∀ l : List Int, 0 ≤ mx l
  | [] => by simp [mx]
  | z :: l => by have := mx_nonneg l; show 0 ≤ max z (mx l); omega
/-- what max found -/
theorem mx_of {l : List Int} {m : Int} (h1 : m ∈ l) (h2 : ∀ y, y ∈ l → y ≤ m) : (0 < m → mx l = m) ∧ (¬ 0 < m → ¬ 0 < mx l) := by
  refine ⟨fun h => ?_, fun h h' => ?_⟩
  · have a := mx_ge h1
    have b := h2 _ (mx_mem (by omega))
    omega
  · have b := h2 _ (mx_mem h')
    omega
theorem addAt_length (l : List Int) (i : Nat) (x : Int) : (addAt l i x).length = l.length := by simp [addAt]
theorem unitStep_length {f : List Int → Option Nat} {acc : List Int} {r : WRow} : (unitStep f acc r).length = acc.length := by
  unfold unitStep; split
  · exact addAt_length _ _ _
  · rfl
theorem unitsF_take_succ {f : List Int → Option Nat} {k : Nat} {rows : List WRow} {i : Nat} {r : WRow} (h : rows[i]? = some r) : unitsF f k (rows.take (i + 1)) = unitStep f (unitsF f k (rows.take i)) r := by
  unfold unitsF
  rw [List.take_add_one, h, List.foldl_append]
  rfl
theorem unitsF_length (f : List Int → Option Nat) (k : Nat) : ∀ rows : List WRow, (unitsF f k rows).length = k := by
  intro rows
  unfold unitsF
  have : ∀ (rows : List WRow) (acc : List Int), (rows.foldl (unitStep f) acc).length = acc.length := by
    intro rows
    induction rows with
    | nil => intro acc; rfl
    | cons r rows ih => intro acc; rw [List.foldl_cons, ih, unitStep_length]
  rw [this]; simp
def fsUnits : FS := fun ds O post => ∃ (rows : List WRow) (ps : List Int) (b : Int) (k : Nat), ds = [.lst (rows.map wrowD), liD ps, .int b, .int (k : Int)] ∧ 1 ≤ k ∧ k ≤ 3 ∧ ps.length = k ∧ (∀ r ∈ rows, r.2.length = k) ∧ 0 ≤ b ∧ b ≤ 1000 ∧ O = [] ∧ post (liD (unitsF (bestP b ps) k rows)) []
theorem pairD_ints (xs ys : List Int) : pairD (xs.map D.int) (ys.map D.int) = (xs.zip ys).map fun q => .tup [.int q.1, .int q.2] := by
  unfold pairD
  rw [List.zip_map, List.map_map]
  rfl
section
variable {P : Program} {w : World} {K : PySem.W.Frag} {mg : Str → Option Value} {base : Heap} {f : Addr} {fd : FuncData}
theorem ok_units (F : FnP K "units_taken" sUnits f fd) (B : Bn mg) : FnOk P w K mg base CX0 1 f fd ["rows", "prices", "by", "kinds"] (spD P w fsUnits) := by
  refine fokX F scUnits (fun ds O post h => ?_) (fun cdv A outer s H E ds O post hr h => ?_)
  · obtain ⟨a, b, c, d, rfl, _⟩ := h; rfl
  · obtain ⟨rows, ps, b, k, rfl, hk1, hk3, hps, hrow, hb0, hb1, rfl, kk⟩ := h
    have hN := scUnits.nd
    unfold liD
    walk_at "d"
    refine ds_setLcO (Oz := []) (i := 4) (own := [("kind", 8)]) rfl hN rfl rfl rfl (blkOk_by (by kernel_rfl)) (by decide) (by intro _; rfl) ?_
    walk_at "rng1"
    repeat walk_at "d"
    refine ⟨_, rfl, by omega, by omega, ?_⟩
    rw [rngD_ints, Int.toNat_natCast]
    refine lcd_map (rngI 0 k) D.int (fun _ => .int 0) (sz1000 (by simp [rngI]; omega)) rfl (fun j hj => ?_) (fun p => ?_)
    · intro _ _ _ _ _
      repeat walk_at "d"
      intro _ _ _ _ _
      repeat walk_at "d"
      exact ⟨rfl, rfl⟩
    repeat walk_at "d"
    have e0 : (rngI 0 k).map (fun _ => D.int 0) = (unitsF (bestP b ps) k (rows.take 0)).map D.int := by
      simp [rngI, unitsF, Function.comp_def, List.map_const']
    rw [e0]
    refine ds_for .never rfl (by intro _; rfl) (ts := [5, 6]) (di_lst ?_)
    repeat walk_at "d"
    refine ⟨_, rfl, fun i ρ O => i ≤ rows.length ∧ ∃ o1 o2 o3 o4 o5 o6, ρ = [some (.lst (rows.map wrowD)), some (.lst (ps.map D.int)), some (.int b), some (.int (k : Int)), some (.raw (.ref p)), o1, o2, o3, o4, o5, o6] ∧ O = [(p, .lst ((unitsF (bestP b ps) k (rows.take i)).map D.int))],
      ⟨Nat.zero_le _, _, _, _, _, _, _, rfl, rfl⟩, fun i d ρ O hd ⟨hi, o1, o2, o3, o4, o5, o6, e1, e2⟩ => ?_, fun ρ O ⟨hi, o1, o2, o3, o4, o5, o6, e1, e2⟩ => ?_⟩
    · subst e1 e2
      obtain ⟨r, hri, rfl⟩ := map_get hd
      obtain ⟨hlt, _⟩ := List.getElem?_eq_some_iff.mp hri
      have hrl := hrow r (List.mem_of_getElem? hri)
      unfold wrowD
      repeat walk_at "d"
      refine ds_setLc (Oz := []) (i := 7) (own := [("number", 9), ("price", 10)]) rfl hN rfl rfl rfl (blkOk_by (by kernel_rfl)) (by decide) (by intro _; rfl) ?_
      refine di_zipL rfl B.zip rfl rfl ?_
      repeat walk_at "d"
      refine ⟨_, _, rfl, ?_⟩
      rw [pairD_ints]
      refine lcd_map (r.2.zip ps) (fun q => .tup [.int q.1, .int q.2]) (fun q => .int (hgt b q.1 q.2)) (sz1000 (by simp; omega)) rfl (fun q hq => ?_) ?_
      · intro _ _ _ _ _
        repeat walk_at "d"
        intro _ _ _ _ _
        repeat walk_at "d"
        refine dt_cmpR op_gt (nomark _) ?_
        repeat walk_at "d"
        refine rd_B0 ⟨_, rfl, ?_⟩
        by_cases hq0 : 0 < q.1
        · refine iT (by simp [hq0]) ?_
          refine de_op op_sub ?_
          refine de_op op_mul ?_
          repeat walk_at "d"
          refine rd_I (.inl ⟨by omega, by omega⟩) ?_
          repeat walk_at "d"
          refine rd_I0 ⟨?_, rfl⟩
          unfold hgt; rw [if_pos hq0]
        · refine iF (by simp [hq0]) ?_
          repeat walk_at "d"
          refine ⟨?_, rfl⟩
          unfold hgt; rw [if_neg hq0]
      have eh : (r.2.zip ps).map (fun q => D.int (hgt b q.1 q.2)) = (hgts b r.2 ps).map D.int := by unfold hgts; rw [List.map_map]; rfl
      rw [eh]
      have hlen : (hgts b r.2 ps).length = k := by simp [hgts]; omega
      have hne : hgts b r.2 ps ≠ [] := by
        intro e
        rw [e] at hlen
        simp at hlen
        omega
      repeat walk_at "d"
      refine dt_cmpR op_gt (nomark _) ?_
      walk_at "max"
      repeat walk_at "d"
      refine rc_max sqd_l hne fun m hm1 hm2 => ?_
      repeat walk_at "d"
      refine rd_B0 ⟨_, rfl, ?_⟩
      obtain ⟨x1, x2⟩ := mx_of hm1 hm2
      by_cases hm0 : 0 < m
      · refine iT (by simp [hm0]) ?_
        walk_at "d"
        refine ds_augL (fun _ _ _ => rfl) ?_
        repeat walk_at "d"
        refine de_index rfl rfl rfl rfl rfl ?_
        repeat walk_at "d"
        refine ⟨⟨_, rfl⟩, ?_⟩
        walk_at "d"
        walk_at "max"
        repeat walk_at "d"
        refine rc_max sqd_l hne fun m' hm1' hm2' => ?_
        have em : m' = m := by have := hm2 _ hm1'; have := hm2' _ hm1; omega
        subst em
        repeat walk_at "d"
        obtain ⟨g1, g2⟩ := idx_get hm1
        have hix := List.idxOf_lt_length_of_mem hm1
        have hul := unitsF_length (bestP b ps) k (rows.take i)
        refine ⟨_, m', _, rfl, rfl, g1, g2, p, 0, _, ((hgts b r.2 ps).idxOf m' : Nat), (hgts b r.2 ps).idxOf m', (unitsF (bestP b ps) k (rows.take i)).getD ((hgts b r.2 ps).idxOf m') 0, rfl, rfl, by omega, rfl, ?_, ?_, ?_⟩
        · rw [List.length_map, hul]
          unfold ixN
          simp
          omega
        · rw [List.getElem?_map, List.getD_eq_getElem?_getD, List.getElem?_eq_getElem (by omega)]
          rfl
        · repeat walk_at "d"
          refine ⟨0, _, rfl, rfl, ?_⟩
          repeat walk_at "d"
          refine ⟨hlt, _, _, _, _, _, _, rfl, ?_⟩
          rw [unitsF_take_succ hri]
          have eb : bestP b ps r.2 = some ((hgts b r.2 ps).idxOf m') := by
            unfold bestP topIx
            rw [x1 hm0, if_pos hm0]
          unfold unitStep
          rw [eb]
          simp [addAt, List.map_set]
      · refine iF (by simp [hm0]) ?_
        repeat walk_at "d"
        refine ⟨hlt, _, _, _, _, _, _, rfl, ?_⟩
        rw [unitsF_take_succ hri]
        have eb : bestP b ps r.2 = none := by
          unfold bestP topIx
          rw [if_neg (x2 hm0)]
        unfold unitStep
        rw [eb]
    · subst e1 e2
      rw [List.length_map] at *
      walk_at "d"
      walk_at "d"
      refine de_fz (i := 0) ?_
      repeat walk_at "d"
      refine ⟨p, _, rfl, rfl, rfl, ?_⟩
      rw [List.take_length]
      exact kk
end
end
section
/-! ### stops_of -/
theorem nodup_len {α : Type} [DecidableEq α] : ∀ {l m : List α}, l.Nodup → (∀ x ∈ l, x ∈ m) → l.length ≤ m.length
  | [], m, _, _ => Nat.zero_le _
  | x :: l, m, h, hs => by
    have hx := hs x List.mem_cons_self
    have h1 := nodup_len (l := l) (m := m.erase x) (List.nodup_cons.mp h).2 fun y hy => by
      have hne : y ≠ x := fun e => (List.nodup_cons.mp h).1 (e ▸ hy)
      exact (List.mem_erase_of_ne hne).mpr (hs y (List.mem_cons_of_mem _ hy))
    rw [List.length_erase_of_mem hx] at h1
    have := List.length_pos_of_mem hx
    rw [List.length_cons]; omega
def putI (l : List Int) (x : Int) : List Int := if x ∈ l then l else l ++ [x]
theorem mem_putI {l : List Int} {x y : Int} : y ∈ putI l x ↔ y ∈ l ∨ y = x := by
  unfold putI
  split
  · constructor
    · exact .inl
    · rintro (h | rfl)
      · exact h
      · assumption
  · simp
theorem putI_nodup {l : List Int} {x : Int} (h : l.Nodup) : (putI l x).Nodup := by
  unfold putI
  split
  · exact h
  · rename_i hx
    exact List.nodup_append.mpr ⟨h, List.nodup_cons.mpr ⟨by simp, List.nodup_nil⟩, fun a ha b hb e => by simp at hb; subst hb; exact hx (e ▸ ha)⟩
/-- a dict that holds a set of ints -/
def bd (l : List Int) : MO := .dK (l.map Sum.inl) (l.map fun _ => .bl true)
theorem bd_put (l : List Int) (x : Int) : MO.dK (kPutK (l.map (Sum.inl : Int → Key)) (.inl x)) (kPutV (l.map (Sum.inl : Int → Key)) (l.map fun _ => D.bl true) (.inl x) (.bl true)) = bd (putI l x) := by
  have hm : (Sum.inl x : Key) ∈ l.map (Sum.inl : Int → Key) ↔ x ∈ l := by simp
  unfold bd putI
  by_cases h : x ∈ l
  · rw [if_pos h, kPutK_old (hm.mpr h)]
    congr 1
    unfold kPutV
    rw [if_pos (kHas_mem.mpr (hm.mpr h))]
    rw [List.zip_map', List.map_map]
    apply List.map_congr_left
    intro y _
    simp
  · rw [if_neg h, kPutK_new (fun z => h (hm.mp z)), kPutV_new (fun z => h (hm.mp z)), List.map_append, List.map_append]
    rfl
def pairK (a : Nat × Nat) : NestedKey := .tup [.num (a.1 : Int), .num (a.2 : Int)]
theorem pairK_inj {a b : Nat × Nat} (h : pairK a = pairK b) : a = b := by
  unfold pairK at h
  injection h with h
  injection h with h1 h2
  injection h1 with h1
  injection h2 with h2 _
  injection h2 with h2
  exact Prod.ext (by omega) (by omega)
abbrev ES := List (Addr × List Int)
abbrev GS := List ((Nat × Nat) × Addr × List Int)
def EO (es : ES) : Own := es.map fun e => (e.1, bd e.2)
def GO (gs : GS) : Own := gs.map fun g => (g.2.1, bd g.2.2)
def rawA (a : Addr) : D := .raw (.ref a)
def gKs (gs : GS) : List NestedKey := gs.map fun g => pairK g.1
def gDs (gs : GS) : List D := gs.map fun g => rawA g.2.1
def gOwn (g : Addr) (es : ES) (gs : GS) : Own := (g, .dN (gKs gs) (gDs gs)) :: (EO es ++ GO gs)
def GapR (r : WRow) (a b : Nat) (x : Int) : Prop := a ≠ b ∧ ∃ u v, r.2[a]? = some u ∧ r.2[b]? = some v ∧ 0 < u ∧ 0 < v ∧ x = u - v
def EndR' (r : WRow) (j : Nat) (x : Int) : Prop := r.2[j]? = some x ∧ 0 < x
structure EOk (k : Nat) (es : ES) (A : Nat → Int → Prop) : Prop where
  len : es.length = k
  nd : ∀ e ∈ es, e.2.Nodup
  mem : ∀ (j : Nat) e, es[j]? = some e → ∀ x, x ∈ e.2 ↔ x = 0 ∨ A j x
structure GOk (gs : GS) (A : Nat → Nat → Int → Prop) : Prop where
  nk : (gs.map (·.1)).Nodup
  nd : ∀ g ∈ gs, g.2.2.Nodup
  ne : ∀ g ∈ gs, g.2.2 ≠ []
  mem : ∀ a b x, (∃ g ∈ gs, g.1 = (a, b) ∧ x ∈ g.2.2) ↔ A a b x
theorem EOk.cong {k : Nat} {es : ES} {A A' : Nat → Int → Prop} (h : EOk k es A) (he : ∀ j x, A j x ↔ A' j x) : EOk k es A' := ⟨h.len, h.nd, fun j e q x => by rw [← he]; exact h.mem j e q x⟩
theorem GOk.cong {gs : GS} {A A' : Nat → Nat → Int → Prop} (h : GOk gs A) (he : ∀ a b x, A a b x ↔ A' a b x) : GOk gs A' := ⟨h.nk, h.nd, h.ne, fun a b x => by rw [← he]; exact h.mem a b x⟩
theorem EOk.put {k : Nat} {es : ES} {A : Nat → Int → Prop} (h : EOk k es A) {c : Nat} {e : Addr × List Int} (hc : es[c]? = some e) (x : Int) : EOk k (es.set c (e.1, putI e.2 x)) fun j y => A j y ∨ (j = c ∧ y = x) := by
  obtain ⟨hlt, hce⟩ := List.getElem?_eq_some_iff.mp hc
  refine ⟨by rw [List.length_set]; exact h.len, fun e' he' => ?_, fun j e' he' y => ?_⟩
  · rcases List.mem_or_eq_of_mem_set he' with h1 | rfl
    · exact h.nd _ h1
    · exact putI_nodup (h.nd _ (List.mem_of_getElem? hc))
  · by_cases hj : c = j
    · subst hj
      rw [List.getElem?_set_self hlt] at he'
      cases he'
      show y ∈ putI e.2 x ↔ _
      rw [mem_putI, h.mem c e hc y]
      constructor
      · rintro ((h | h) | h)
        · exact .inl h
        · exact .inr (.inl h)
        · exact .inr (.inr ⟨rfl, h⟩)
      · rintro (h | h | ⟨_, h⟩)
        · exact .inl (.inl h)
        · exact .inl (.inr h)
        · exact .inr h
    · rw [List.getElem?_set_ne hj] at he'
      rw [h.mem j e' he' y]
      constructor
      · rintro (h | h)
        · exact .inl h
        · exact .inr (.inl h)
      · rintro (h | h | ⟨h, _⟩)
        · exact .inl h
        · exact .inr h
        · exact absurd h.symm hj
theorem GOk.put {gs : GS} {A : Nat → Nat → Int → Prop} (h : GOk gs A) {c : Nat} {g : (Nat × Nat) × Addr × List Int} (hc : gs[c]? = some g) (x : Int) : GOk (gs.set c (g.1, g.2.1, putI g.2.2 x)) fun a b y => A a b y ∨ ((a, b) = g.1 ∧ y = x) := by
  obtain ⟨hlt, hce⟩ := List.getElem?_eq_some_iff.mp hc
  have hmap : (gs.set c (g.1, g.2.1, putI g.2.2 x)).map (·.1) = gs.map (·.1) := by
    rw [List.map_set]
    apply List.ext_getElem?
    intro i
    by_cases hi : c = i
    · subst hi
      rw [List.getElem?_set_self (by simpa using hlt), List.getElem?_map, hc]
      rfl
    · rw [List.getElem?_set_ne hi]
  refine ⟨by rw [hmap]; exact h.nk, fun g' hg' => ?_, fun g' hg' => ?_, fun a b y => ?_⟩
  · rcases List.mem_or_eq_of_mem_set hg' with h1 | rfl
    · exact h.nd _ h1
    · exact putI_nodup (h.nd _ (List.mem_of_getElem? hc))
  · rcases List.mem_or_eq_of_mem_set hg' with h1 | rfl
    · exact h.ne _ h1
    · intro e
      have : x ∈ putI g.2.2 x := mem_putI.mpr (.inr rfl)
      have e : putI g.2.2 x = [] := e
      rw [e] at this; cases this
  · constructor
    · rintro ⟨g', hg', e1, hy⟩
      rcases List.mem_or_eq_of_mem_set hg' with h1 | rfl
      · exact .inl ((h.mem a b y).mp ⟨g', h1, e1, hy⟩)
      · rcases mem_putI.mp hy with hy | rfl
        · exact .inl ((h.mem a b y).mp ⟨g, List.mem_of_getElem? hc, e1, hy⟩)
        · exact .inr ⟨e1.symm, rfl⟩
    · rintro (hA | ⟨e1, rfl⟩)
      · obtain ⟨g', hg', e1, hy⟩ := (h.mem a b y).mpr hA
        obtain ⟨i, hi⟩ := List.mem_iff_getElem?.mp hg'
        by_cases hic : c = i
        · subst hic
          rw [hc] at hi
          cases hi
          exact ⟨_, List.mem_iff_getElem?.mpr ⟨c, List.getElem?_set_self hlt⟩, e1, mem_putI.mpr (.inl hy)⟩
        · exact ⟨g', List.mem_iff_getElem?.mpr ⟨i, by rw [List.getElem?_set_ne hic]; exact hi⟩, e1, hy⟩
      · exact ⟨_, List.mem_iff_getElem?.mpr ⟨c, List.getElem?_set_self hlt⟩, e1.symm, mem_putI.mpr (.inr rfl)⟩
theorem GOk.new {gs : GS} {A : Nat → Nat → Int → Prop} (h : GOk gs A) {c : Nat × Nat} (hc : c ∉ gs.map (·.1)) (q : Addr) (x : Int) : GOk (gs ++ [(c, q, [x])]) fun a b y => A a b y ∨ ((a, b) = c ∧ y = x) := by
  refine ⟨?_, fun g' hg' => ?_, fun g' hg' => ?_, fun a b y => ?_⟩
  · rw [List.map_append]
    exact List.nodup_append.mpr ⟨h.nk, List.nodup_cons.mpr ⟨by simp, List.nodup_nil⟩, fun a ha b hb e => by simp at hb; subst hb; exact hc (e ▸ ha)⟩
  · rcases List.mem_append.mp hg' with h1 | h1
    · exact h.nd _ h1
    · simp at h1; subst h1; simp
  · rcases List.mem_append.mp hg' with h1 | h1
    · exact h.ne _ h1
    · simp at h1; subst h1; simp
  · constructor
    · rintro ⟨g', hg', e1, hy⟩
      rcases List.mem_append.mp hg' with h1 | h1
      · exact .inl ((h.mem a b y).mp ⟨g', h1, e1, hy⟩)
      · simp at h1; subst h1
        simp at hy
        exact .inr ⟨e1.symm, hy⟩
    · rintro (hA | ⟨e1, rfl⟩)
      · obtain ⟨g', hg', e1, hy⟩ := (h.mem a b y).mpr hA
        exact ⟨g', List.mem_append_left _ hg', e1, hy⟩
      · exact ⟨_, List.mem_append_right _ List.mem_cons_self, e1.symm, by simp⟩
/-- a look-up by pairs -/
theorem gLk {gs : GS} {f : ((Nat × Nat) × Addr × List Int) → D} {c : Nat × Nat} : (∀ d, kLk (gKs gs) (gs.map f) (pairK c) = some d → ∃ (i : Nat) (g : (Nat × Nat) × Addr × List Int), gs[i]? = some g ∧ g.1 = c ∧ d = f g) ∧ (kLk (gKs gs) (gs.map f) (pairK c) = none → c ∉ gs.map (·.1)) := by
  induction gs with
  | nil => exact ⟨fun d h => by simp [gKs, kLk] at h, fun _ => by simp⟩
  | cons g gs ih =>
    have e : kLk (gKs (g :: gs)) ((g :: gs).map f) (pairK c) = if pairK g.1 = pairK c then some (f g) else kLk (gKs gs) (gs.map f) (pairK c) := rfl
    rw [e]
    by_cases hp : pairK g.1 = pairK c
    · rw [if_pos hp]
      exact ⟨fun d h => ⟨0, g, rfl, pairK_inj hp, (Option.some.inj h).symm⟩, fun h => by cases h⟩
    · rw [if_neg hp]
      refine ⟨fun d h => ?_, fun h => ?_⟩
      · obtain ⟨i, g', h1, h2, h3⟩ := ih.1 d h
        exact ⟨i + 1, g', by simpa using h1, h2, h3⟩
      · have := ih.2 h
        simp only [List.map_cons, List.mem_cons, not_or]
        exact ⟨fun e => hp (by rw [e]), this⟩
def gapL (gs : List ((Nat × Nat) × List Int)) : List NestedKey × List D := (gs.map fun g => pairK g.1, gs.map fun g => liD g.2)
/-- what stops_of tells -/
structure Stops (rows : List WRow) (k : Nat) (es : List (List Int)) (gs : List ((Nat × Nat) × List Int)) : Prop where
  len : es.length = k
  nd : ∀ e ∈ es, e.Nodup
  mem : ∀ (j : Nat) e, es[j]? = some e → ∀ x, x ∈ e ↔ x = 0 ∨ ∃ r ∈ rows, EndR' r j x
  gnk : (gs.map (·.1)).Nodup
  gnd : ∀ g ∈ gs, g.2.Nodup
  gmem : ∀ a b x, (∃ g ∈ gs, g.1 = (a, b) ∧ x ∈ g.2) ↔ ∃ r ∈ rows, GapR r a b x
def fsStops : FS := fun ds O post => ∃ (rows : List WRow) (k : Nat), ds = [.lst (rows.map wrowD), .int (k : Int)] ∧ 1 ≤ k ∧ k ≤ 3 ∧ rows.length ≤ 100 ∧ (∀ r ∈ rows, r.2.length = k) ∧ O = [] ∧
  ∀ es gs p, Stops rows k es gs → post (.tup [.lst (es.map liD), rawA p]) [(p, .dN (gapL gs).1 (gapL gs).2)]
abbrev sStops : Stmt := topS 24
theorem scStops : FnScope ["rows", "kinds", "ends", "gaps", "weight", "numbers", "kind", "other", "end", "pair"] ["rows", "kinds"] (defScope sStops) := ⟨rfl, rfl, rfl, by decide +kernel, rfl, by decide +kernel, by decide +kernel⟩
section
variable {P : Program} {w : World} {K : PySem.W.Frag} {mg : Str → Option Value} {base : Heap} {f : Addr} {fd : FuncData}
theorem eo_get {es : ES} {j : Nat} {e : Addr × List Int} (h : es[j]? = some e) (g : Addr) (gs : GS) : (gOwn g es gs)[j + 1]? = some (e.1, bd e.2) := by
  obtain ⟨hlt, _⟩ := List.getElem?_eq_some_iff.mp h
  show (EO es ++ GO gs)[j]? = _
  rw [List.getElem?_append_left (by simpa [EO] using hlt)]
  unfold EO
  rw [List.getElem?_map, h]
  rfl
theorem eo_set {es : ES} {j : Nat} {e : Addr × List Int} (h : es[j]? = some e) (g : Addr) (gs : GS) (l : List Int) : (gOwn g es gs).set (j + 1) (e.1, bd l) = gOwn g (es.set j (e.1, l)) gs := by
  obtain ⟨hlt, _⟩ := List.getElem?_eq_some_iff.mp h
  show (g, _) :: (EO es ++ GO gs).set j _ = (g, _) :: (EO (es.set j (e.1, l)) ++ GO gs)
  rw [List.set_append_left _ _ (by simpa [EO] using hlt)]
  unfold EO
  rw [List.map_set]
theorem go_get {es : ES} {gs : GS} {j : Nat} {x : (Nat × Nat) × Addr × List Int} (h : gs[j]? = some x) (g : Addr) : (gOwn g es gs)[es.length + j + 1]? = some (x.2.1, bd x.2.2) := by
  show (EO es ++ GO gs)[es.length + j]? = _
  rw [List.getElem?_append_right (by simp [EO])]
  unfold EO GO
  rw [List.length_map, Nat.add_sub_cancel_left, List.getElem?_map, h]
  rfl
theorem go_set {es : ES} {gs : GS} {j : Nat} {x : (Nat × Nat) × Addr × List Int} (h : gs[j]? = some x) (g : Addr) (l : List Int) : (gOwn g es gs).set (es.length + j + 1) (x.2.1, bd l) = gOwn g es (gs.set j (x.1, x.2.1, l)) := by
  obtain ⟨hlt, hx⟩ := List.getElem?_eq_some_iff.mp h
  have hk : gKs (gs.set j (x.1, x.2.1, l)) = gKs gs ∧ gDs (gs.set j (x.1, x.2.1, l)) = gDs gs := by
    unfold gKs gDs
    rw [List.map_set, List.map_set]
    constructor
    · apply List.ext_getElem?
      intro i
      by_cases hi : j = i
      · subst hi; rw [List.getElem?_set_self (by simpa using hlt), List.getElem?_map, h]; rfl
      · rw [List.getElem?_set_ne hi]
    · apply List.ext_getElem?
      intro i
      by_cases hi : j = i
      · subst hi; rw [List.getElem?_set_self (by simpa using hlt), List.getElem?_map, h]; rfl
      · rw [List.getElem?_set_ne hi]
  show (g, MO.dN (gKs gs) (gDs gs)) :: (EO es ++ GO gs).set (es.length + j) _ = (g, MO.dN (gKs _) (gDs _)) :: (EO es ++ GO _)
  rw [hk.1, hk.2, List.set_append_right _ _ (by simp [EO])]
  unfold EO GO
  rw [List.length_map, Nat.add_sub_cancel_left, List.map_set]
end
section
variable {P : Program} {w : World} {K : PySem.W.Frag} {mg : Str → Option Value} {base : Heap} {f : Addr} {fd : FuncData}
theorem room1 {k : Nat} {A : Around} (hr : Room k A) : A.units + 1 < cLine := by have := room9 hr; omega
theorem eo_rev (es : ES) : (EO es).Perm (EO es.reverse) := (List.reverse_perm es).symm.map _
theorem rngI_get {lo : Int} {n i : Nat} {x : Int} (h : (rngI lo n)[i]? = some x) : i < n ∧ x = lo + (i : Nat) := by
  unfold rngI at h
  rw [List.getElem?_map] at h
  cases hr : (List.range n)[i]? with
  | none => rw [hr] at h; cases h
  | some j =>
    rw [hr] at h
    obtain ⟨h1, h2⟩ := List.getElem?_eq_some_iff.mp hr
    simp at h1 h2 h
    subst h2
    exact ⟨h1, h.symm⟩
theorem EOk.le {k : Nat} {es : ES} {A : Nat → Int → Prop} {rows : List WRow} (h : EOk k es A) (hA : ∀ j x, A j x → ∃ r ∈ rows, EndR' r j x) {j : Nat} {e : Addr × List Int} (he : es[j]? = some e) : e.2.length ≤ rows.length + 1 := by
  have h1 := nodup_len (l := e.2) (m := 0 :: rows.filterMap fun r => r.2[j]?) (h.nd e (List.mem_of_getElem? he)) fun x hx => by
    rcases (h.mem j e he x).mp hx with rfl | hx
    · exact List.mem_cons_self
    · obtain ⟨r, hr, h2, _⟩ := hA j x hx
      exact List.mem_cons_of_mem _ (List.mem_filterMap.mpr ⟨r, hr, h2⟩)
  have h2 := List.length_filterMap_le (fun r : WRow => r.2[j]?) rows
  rw [List.length_cons] at h1
  omega
theorem GOk.le {gs : GS} {A : Nat → Nat → Int → Prop} {rows : List WRow} (h : GOk gs A) (hA : ∀ a b x, A a b x → ∃ r ∈ rows, GapR r a b x) {g : (Nat × Nat) × Addr × List Int} (hg : g ∈ gs) : g.2.2.length ≤ rows.length := by
  have h1 := nodup_len (l := g.2.2) (m := rows.map fun r => r.2.getD g.1.1 0 - r.2.getD g.1.2 0) (h.nd g hg) fun x hx => by
    obtain ⟨r, hr, _, u, v, h2, h3, _, _, rfl⟩ := hA _ _ _ ((h.mem g.1.1 g.1.2 x).mp ⟨g, hg, rfl, hx⟩)
    exact List.mem_map.mpr ⟨r, hr, by rw [List.getD_eq_getElem?_getD, List.getD_eq_getElem?_getD, h2, h3]; rfl⟩
  simpa using h1
theorem GOk.few {gs : GS} {A : Nat → Nat → Int → Prop} {rows : List WRow} {k : Nat} (h : GOk gs A) (hk : k ≤ 3) (hr : ∀ r ∈ rows, r.2.length = k) (hA : ∀ a b x, A a b x → ∃ r ∈ rows, GapR r a b x) : gs.length ≤ 9 := by
  have h1 := nodup_len (l := gs.map (·.1)) (m := (List.range 3).flatMap fun a => (List.range 3).map fun b => (a, b)) h.nk fun p hp => by
    obtain ⟨g, hg, rfl⟩ := List.mem_map.mp hp
    obtain ⟨x, hx⟩ : ∃ x, x ∈ g.2.2 := List.exists_mem_of_ne_nil _ (h.ne g hg)
    obtain ⟨r, hrr, _, u, v, h2, h3, _⟩ := hA _ _ _ ((h.mem g.1.1 g.1.2 x).mp ⟨g, hg, rfl, hx⟩)
    have l1 := (List.getElem?_eq_some_iff.mp h2).1
    have l2 := (List.getElem?_eq_some_iff.mp h3).1
    have l3 := hr r hrr
    exact List.mem_flatMap.mpr ⟨g.1.1, List.mem_range.mpr (by omega), List.mem_map.mpr ⟨g.1.2, List.mem_range.mpr (by omega), rfl⟩⟩
  have h9 : ((List.range 3).flatMap fun a => (List.range 3).map fun b => (a, b)).length = 9 := by decide
  rw [h9] at h1
  simpa using h1
theorem kLk_nd {gs : GS} (hn : (gs.map (·.1)).Nodup) (f : ((Nat × Nat) × Addr × List Int) → D) {i : Nat} {x : (Nat × Nat) × Addr × List Int} (hx : gs[i]? = some x) : kLk (gKs gs) (gs.map f) (pairK x.1) = some (f x) := by
  cases hq : kLk (gKs gs) (gs.map f) (pairK x.1) with
  | none => exact absurd (List.mem_map.mpr ⟨x, List.mem_of_getElem? hx, rfl⟩) (gLk.2 hq)
  | some d =>
    obtain ⟨j, y, h1, h2, h3⟩ := gLk.1 d hq
    have a1 : (gs.map (·.1))[i]? = some x.1 := map_at hx
    have a2 : (gs.map (·.1))[j]? = some x.1 := by rw [← h2]; exact map_at h1
    have := (List.getElem?_inj (List.getElem?_eq_some_iff.mp a1).1 hn).mp (a1.trans a2.symm)
    subst this
    rw [hx] at h1
    cases h1
    rw [h3]
theorem ok_stops (F : FnP K "stops_of" sStops f fd) (B : Bn mg) : FnOk P w K mg base CX0 1 f fd ["rows", "kinds"] (spD P w fsStops) := by
  refine fokX F scStops (fun ds O post h => ?_) (fun cdv A outer s H E ds O post hr h => ?_)
  · obtain ⟨a, b, rfl, _⟩ := h; rfl
  · obtain ⟨rows, k, rfl, h1, h3, hrl, hrow, rfl, kk⟩ := h
    have hN := scStops.nd
    have hu1 := room1 hr
    have hu9 := room9 hr
    walk_at "d"
    refine ds_asg (ts := [2, 3]) ?_ rfl rfl rfl
    walk_at "d"
    walk_at "d"
    refine de_lc (Oz := []) (own := [("kind", 6)]) rfl hN (blkOk_by (by kernel_rfl)) (by decide) (by intro _; rfl) ?_
    walk_at "rng1"
    repeat walk_at "d"
    refine ⟨_, rfl, by omega, by omega, ?_⟩
    rw [rngD_ints, Int.toNat_natCast]
    refine ⟨fun i acc O' => i ≤ k ∧ ∃ es : ES, es.length = i ∧ (∀ e ∈ es, e.2 = [0]) ∧ acc = es.reverse.map (fun e => rawA e.1) ∧ O' = EO es, ⟨Nat.zero_le _, [], rfl, by simp, rfl, rfl⟩, fun i d acc O' hd ⟨hi, es, e1, e2, e3, e4⟩ => ?_, fun _ _ _ _ q hq => (nomatch hq), fun acc O' ⟨_, es, e1, e2, e3, e4⟩ => ?_⟩
    · subst e3 e4
      obtain ⟨j, hj, rfl⟩ := map_get hd
      have hlt : i < k := by have := (List.getElem?_eq_some_iff.mp hj).1; simpa [rngI] using this
      intro _ _ _ _ _
      repeat walk_at "d"
      intro _ _ _ _ _
      refine de_disp rfl rfl (by simp) (by decide) ?_
      refine de_int ?_
      refine de_bl ?_
      refine ⟨[.inl 0], rfl, by simp, rfl, by decide, fun p => ⟨?_, hlt, (p, [0]) :: es, by simp [e1], ?_, ?_, rfl⟩⟩
      · exact Nat.lt_of_lt_of_le (show _ < 1000 by simp; omega) (by decide)
      · intro e he
        rcases List.mem_cons.mp he with rfl | he
        · rfl
        · exact e2 e he
      · simp [rawA]
    subst e3 e4
    have hk : es.length = k := by rw [e1]; simp [rngI]
    walk_at "d"
    refine de_dnewN fun g => ?_
    repeat walk_at "d"
    refine ⟨sz rfl, ?_⟩
    walk_at "d"
    walk_at "d"
    walk_at "d"
    walk_at "d"
    walk_at "d"
    walk_at "d"
    refine dss_perm (O' := gOwn g es.reverse []) (List.Perm.cons _ (by show (EO es).Perm (EO es.reverse ++ []); rw [List.append_nil]; exact eo_rev es)) ?_
    have he0 : EOk k es.reverse fun _ _ => False := ⟨by simp [hk], fun e he => by rw [e2 e (by simpa using he)]; simp, fun j e he x => by rw [e2 e (by simpa using List.mem_of_getElem? he)]; simp⟩
    have hg0 : GOk [] fun _ _ _ => False := ⟨by simp, by simp, by simp, by simp⟩
    generalize hes : es.reverse = es0 at he0 ⊢
    clear hes e1 e2 hk
    have hps : ∀ es' : ES, es'.map (fun e => rawA e.1) = es0.map (fun e => rawA e.1) → es'.length = es0.length := fun es' h => by have := congrArg List.length h; simpa using this
    walk_at "d"
    refine ds_for .never rfl (by intro _; rfl) (ts := [4, 5]) (di_lst ?_)
    repeat walk_at "d"
    refine ⟨_, rfl, fun i ρ O => i ≤ rows.length ∧ ∃ o1 o2 o3 o4 o5 o6 es gs, ρ = [some (.lst (rows.map wrowD)), some (.int (k : Int)), some (.lst (es0.map fun e => rawA e.1)), some (rawA g), o1, o2, o3, o4, o5, o6] ∧ O = gOwn g es gs ∧ es.map (fun e => rawA e.1) = es0.map (fun e => rawA e.1) ∧
      EOk k es (fun j x => ∃ r ∈ rows.take i, EndR' r j x) ∧ GOk gs (fun a b x => ∃ r ∈ rows.take i, GapR r a b x),
      ⟨Nat.zero_le _, _, _, _, _, _, _, es0, [], rfl, rfl, rfl, he0.cong (by simp), hg0.cong (by simp)⟩, fun i d ρ O hd ⟨hi, o1, o2, o3, o4, o5, o6, es, gs, e1, e2, hp, hE, hG⟩ => ?_, fun ρ O ⟨hi, o1, o2, o3, o4, o5, o6, es, gs, e1, e2, hp, hE, hG⟩ => ?_⟩
    · subst e1 e2
      obtain ⟨r, hri, rfl⟩ := map_get hd
      obtain ⟨hlt, _⟩ := List.getElem?_eq_some_iff.mp hri
      have hrk := hrow r (List.mem_of_getElem? hri)
      unfold wrowD
      repeat walk_at "d"
      refine ds_for .never rfl (by intro _; rfl) (ts := [6]) ?_
      walk_at "rng1"
      repeat walk_at "d"
      refine ⟨_, rfl, by omega, by omega, ?_⟩
      rw [rngD_ints, Int.toNat_natCast]
      refine ⟨fun c ρ O => c ≤ k ∧ ∃ o3 o4 o5 o6 es gs, ρ = [some (.lst (rows.map wrowD)), some (.int (k : Int)), some (.lst (es0.map fun e => rawA e.1)), some (rawA g), some (.int r.1), some (.lst (r.2.map D.int)), o3, o4, o5, o6] ∧ O = gOwn g es gs ∧ es.map (fun e => rawA e.1) = es0.map (fun e => rawA e.1) ∧
        EOk k es (fun j x => (∃ r ∈ rows.take i, EndR' r j x) ∨ j < c ∧ EndR' r j x) ∧ GOk gs (fun a b x => (∃ r ∈ rows.take i, GapR r a b x) ∨ a < c ∧ GapR r a b x),
        ⟨Nat.zero_le _, _, _, _, _, es, gs, rfl, rfl, hp, hE.cong (by simp), hG.cong (by simp)⟩, fun c d ρ O hd ⟨hc, o3, o4, o5, o6, es, gs, e1, e2, hp, hE, hG⟩ => ?_, fun ρ O ⟨hc, o3, o4, o5, o6, es, gs, e1, e2, hp, hE, hG⟩ => ?_⟩
      · subst e1 e2
        obtain ⟨j0, hj0, rfl⟩ := map_get hd
        obtain ⟨hck, rfl⟩ := rngI_get hj0
        rw [Int.zero_add]
        have hAE : ∀ j x, ((∃ r ∈ rows.take i, EndR' r j x) ∨ j < c ∧ EndR' r j x) → ∃ r ∈ rows, EndR' r j x := by
          rintro j x (⟨r', h, h'⟩ | ⟨_, h⟩)
          · exact ⟨r', List.mem_of_mem_take h, h'⟩
          · exact ⟨r, List.mem_of_getElem? hri, h⟩
        obtain ⟨u, hu⟩ : ∃ u, r.2[c]? = some u := ⟨_, List.getElem?_eq_getElem (by omega)⟩
        have hel : es.length = k := hE.len
        obtain ⟨e, he⟩ : ∃ e, es[c]? = some e := ⟨_, List.getElem?_eq_getElem (by omega)⟩
        have hraw : (es0.map fun e => rawA e.1)[c]? = some (rawA e.1) := by rw [← hp]; exact map_at he
        repeat walk_at "d"
        refine dt_cmpR op_gt (nomark _) ?_
        repeat walk_at "d"
        refine ⟨_, _, _, sqd_l, rfl, atI_nat (map_at hu), ?_⟩
        repeat walk_at "d"
        refine rd_B0 ⟨_, rfl, ?_⟩
        by_cases hu0 : 0 < u
        · refine iT (by simp [hu0]) ?_
          walk_at "d"
          refine ds_asg (ts := []) ?_ rfl rfl rfl
          repeat walk_at "d"
          refine dg_sub (set_dk hu1) (by intro _; rfl) ?_
          repeat walk_at "d"
          refine ⟨_, _, _, sqd_l, rfl, atI_nat hraw, ?_⟩
          repeat walk_at "d"
          refine ⟨_, _, _, sqd_l, rfl, atI_nat (map_at hu), ?_⟩
          have hbig : (e.2.map (Sum.inl : Int → Key)).length < sizeLine := by
            have := hE.le hAE he
            exact Nat.lt_of_lt_of_le (show _ < 1000 by simp; omega) (by decide)
          refine std_dk (k := .inl u) rfl (eo_get he g gs) hbig ?_
          rw [bd_put, eo_set he]
          have hp2 : (es.set c (e.1, putI e.2 u)).map (fun e => rawA e.1) = es0.map fun e => rawA e.1 := by
            rw [← hp, List.map_set]
            apply List.ext_getElem?
            intro m
            by_cases hm : c = m
            · subst hm
              rw [List.getElem?_set_self (by simp; omega), map_at he]
            · rw [List.getElem?_set_ne hm]
          have hE2 := (hE.put he u).cong (A' := fun j x => (∃ r ∈ rows.take i, EndR' r j x) ∨ j < c + 1 ∧ EndR' r j x) fun j x => by
            constructor
            · rintro ((h | ⟨h, h'⟩) | ⟨rfl, rfl⟩)
              · exact .inl h
              · exact .inr ⟨by omega, h'⟩
              · exact .inr ⟨by omega, hu, hu0⟩
            · rintro (h | ⟨h, h'⟩)
              · exact .inl (.inl h)
              · by_cases hjc : j = c
                · subst hjc
                  refine .inr ⟨rfl, ?_⟩
                  have := h'.1
                  rw [hu] at this
                  exact (Option.some.inj this).symm
                · exact .inl (.inr ⟨by omega, h'⟩)
          generalize hesn : es.set c (e.1, putI e.2 u) = es2 at hp2 hE2 ⊢
          have hel2 : es2.length = k := hE2.len
          clear hesn hE he hraw hp
          walk_at "d"
          refine ds_for .never rfl (by intro _; rfl) (ts := [7]) ?_
          walk_at "rng1"
          repeat walk_at "d"
          refine ⟨_, rfl, by omega, by omega, ?_⟩
          rw [rngD_ints, Int.toNat_natCast]
          refine ⟨fun d ρ O => d ≤ k ∧ ∃ o4 o5 o6 gs, ρ = [some (.lst (rows.map wrowD)), some (.int (k : Int)), some (.lst (es0.map fun e => rawA e.1)), some (rawA g), some (.int r.1), some (.lst (r.2.map D.int)), some (.int (c : Int)), o4, o5, o6] ∧ O = gOwn g es2 gs ∧
            GOk gs (fun a b x => (∃ r ∈ rows.take i, GapR r a b x) ∨ a < c ∧ GapR r a b x ∨ a = c ∧ b < d ∧ GapR r a b x),
            ⟨Nat.zero_le _, _, _, _, gs, rfl, rfl, hG.cong (by simp)⟩, fun d dd ρ O hdd ⟨hdk, o4, o5, o6, gs, e1, e2, hG⟩ => ?_, fun ρ O ⟨hdk, o4, o5, o6, gs, e1, e2, hG⟩ => ?_⟩
          · subst e1 e2
            obtain ⟨j1, hj1, rfl⟩ := map_get hdd
            obtain ⟨hdk2, rfl⟩ := rngI_get hj1
            rw [Int.zero_add]
            have hAG : ∀ a b x, ((∃ r ∈ rows.take i, GapR r a b x) ∨ a < c ∧ GapR r a b x ∨ a = c ∧ b < d ∧ GapR r a b x) → ∃ r ∈ rows, GapR r a b x := by
              rintro a b x (⟨r', h, h'⟩ | ⟨_, h⟩ | ⟨_, _, h⟩)
              · exact ⟨r', List.mem_of_mem_take h, h'⟩
              · exact ⟨r, List.mem_of_getElem? hri, h⟩
              · exact ⟨r, List.mem_of_getElem? hri, h⟩
            obtain ⟨v, hv⟩ : ∃ v, r.2[d]? = some v := ⟨_, List.getElem?_eq_getElem (by omega)⟩
            have same : (¬ (d ≠ c ∧ 0 < v)) → GOk gs (fun a b x => (∃ r ∈ rows.take i, GapR r a b x) ∨ a < c ∧ GapR r a b x ∨ a = c ∧ b < d + 1 ∧ GapR r a b x) := fun hno => hG.cong fun a b x => by
              constructor
              · rintro (h | h | ⟨h1, h2, h3⟩)
                · exact .inl h
                · exact .inr (.inl h)
                · exact .inr (.inr ⟨h1, by omega, h3⟩)
              · rintro (h | h | ⟨h1, h2, h3⟩)
                · exact .inl h
                · exact .inr (.inl h)
                · by_cases hbd : b = d
                  · subst hbd h1
                    obtain ⟨n1, u', v', q1, q2, q3, q4, _⟩ := h3
                    rw [hv] at q2
                    cases q2
                    exact absurd ⟨Ne.symm n1, q4⟩ hno
                  · exact .inr (.inr ⟨h1, by omega, h3⟩)
            repeat walk_at "d"
            refine dt_cmpR op_ne (nomark _) ?_
            repeat walk_at "d"
            refine rd_neI ⟨_, rfl, ?_⟩
            by_cases hdc : d = c
            · refine iF (by simp [hdc]) (iF rfl ?_)
              repeat walk_at "d"
              exact ⟨hdk2, _, _, _, gs, rfl, rfl, same fun h => h.1 hdc⟩
            · refine iT (by simp; omega) ?_
              walk_at "d"
              refine dt_cmpR op_gt (nomark _) ?_
              repeat walk_at "d"
              refine ⟨_, _, _, sqd_l, rfl, atI_nat (map_at hv), ?_⟩
              repeat walk_at "d"
              refine rd_B0 ⟨_, rfl, ?_⟩
              by_cases hv0 : 0 < v
              · refine iT (by simp [hv0]) ?_
                walk_at "d"
                refine ds_asg (ts := []) ?_ rfl rfl rfl
                repeat walk_at "d"
                refine dg_sub (set_dk hu1) (by intro _; rfl) ?_
                refine de_setdN hu9 ⟨rfl, rfl, rfl, rfl⟩ ?_
                repeat walk_at "d"
                refine ⟨⟨_, _, g, rfl, 0, .inl rfl⟩, ?_⟩
                repeat walk_at "d"
                refine ⟨sz rfl, ?_⟩
                refine de_dnewK fun q => ?_
                have hfew := hG.few h3 hrow hAG
                have big : ∀ (i' : Nat) (x : (Nat × Nat) × Addr × List Int), gs[i']? = some x → (x.2.2.map (Sum.inl : Int → Key)).length < sizeLine := fun i' x hx => by
                  have := hG.le hAG (List.mem_of_getElem? hx)
                  exact Nat.lt_of_lt_of_le (show _ < 1000 by simp; omega) (by decide)
                have fin : ∀ gs', GOk gs' (fun a b x => ((∃ r ∈ rows.take i, GapR r a b x) ∨ a < c ∧ GapR r a b x ∨ a = c ∧ b < d ∧ GapR r a b x) ∨ ((a, b) = (c, d) ∧ x = u - v)) →
                    GOk gs' (fun a b x => (∃ r ∈ rows.take i, GapR r a b x) ∨ a < c ∧ GapR r a b x ∨ a = c ∧ b < d + 1 ∧ GapR r a b x) := fun gs' h => h.cong fun a b x => by
                  constructor
                  · rintro ((h | h | ⟨h1, h2, h3⟩) | ⟨h1, rfl⟩)
                    · exact .inl h
                    · exact .inr (.inl h)
                    · exact .inr (.inr ⟨h1, by omega, h3⟩)
                    · cases h1
                      exact .inr (.inr ⟨rfl, by omega, fun e => hdc e.symm, u, v, hu, hv, hu0, hv0, rfl⟩)
                  · rintro (h | h | ⟨h1, h2, h3⟩)
                    · exact .inl (.inl h)
                    · exact .inl (.inr (.inl h))
                    · by_cases hbd : b = d
                      · subst hbd h1
                        obtain ⟨n1, u', v', q1, q2, q3, q4, q5⟩ := h3
                        rw [hv] at q2
                        cases q2
                        rw [hu] at q1
                        cases q1
                        exact .inr ⟨rfl, q5⟩
                      · exact .inl (.inr (.inr ⟨h1, by omega, h3⟩))
                refine ⟨g, 1, gKs gs, gDs gs, pairK (c, d), rfl, rfl, Nat.lt_of_lt_of_le (show _ < 1000 by simp [gKs]; omega) (by decide), rfl, ⟨_, rfl⟩, Nat.le_of_ble_eq_true rfl, fun d' hd' => ?_, fun hd' => ?_⟩
                · obtain ⟨i', x, hx, hxc, rfl⟩ := gLk.1 d' hd'
                  refine de_op op_sub ?_
                  repeat walk_at "d"
                  refine ⟨_, _, _, sqd_l, rfl, atI_nat (map_at hu), ?_⟩
                  repeat walk_at "d"
                  refine ⟨_, _, _, sqd_l, rfl, atI_nat (map_at hv), ?_⟩
                  refine rd_I0 ?_
                  have hgo : ((q, MO.dK [] []) :: gOwn g es2 gs)[es2.length + i' + 1 + 1]? = some (x.2.1, bd x.2.2) := go_get hx g
                  refine std_dk (k := .inl (u - v)) rfl hgo (big i' x hx) ?_
                  rw [bd_put]
                  have hset : ((q, MO.dK [] []) :: gOwn g es2 gs).set (es2.length + i' + 1 + 1) (x.2.1, bd (putI x.2.2 (u - v))) = (q, MO.dK [] []) :: gOwn g es2 (gs.set i' (x.1, x.2.1, putI x.2.2 (u - v))) := congrArg _ (go_set hx g _)
                  rw [hset]
                  refine dss_sub (O' := gOwn g es2 (gs.set i' (x.1, x.2.1, putI x.2.2 (u - v)))) (List.sublist_cons_self _ _) ?_
                  repeat walk_at "d"
                  refine ⟨hdk2, _, _, _, _, rfl, rfl, fin _ ?_⟩
                  have := hG.put hx (u - v)
                  simp only [hxc] at this ⊢
                  exact this
                · refine de_op op_sub ?_
                  repeat walk_at "d"
                  refine ⟨_, _, _, sqd_l, rfl, atI_nat (map_at hu), ?_⟩
                  repeat walk_at "d"
                  refine ⟨_, _, _, sqd_l, rfl, atI_nat (map_at hv), ?_⟩
                  refine rd_I0 ?_
                  refine std_dk (k := .inl (u - v)) (j := 0) (ks := []) (ds := []) rfl rfl (by decide) ?_
                  have hset : ((((q, MO.dK [] []) :: gOwn g es2 gs).set 1 (g, .dN (gKs gs ++ [pairK (c, d)]) (gDs gs ++ [D.raw (.ref q)]))).set 0 (q, .dK (kPutK ([] : List Key) (.inl (u - v))) (kPutV ([] : List Key) ([] : List D) (.inl (u - v)) (.bl true)))).Perm (gOwn g es2 (gs ++ [((c, d), q, [u - v])])) := by
                    have e1 : gKs gs ++ [pairK (c, d)] = gKs (gs ++ [((c, d), q, [u - v])]) := by simp [gKs]
                    have e2 : gDs gs ++ [D.raw (.ref q)] = gDs (gs ++ [((c, d), q, [u - v])]) := by simp [gDs, rawA]
                    rw [e1, e2]
                    show ((q, bd [u - v]) :: (g, MO.dN (gKs _) (gDs _)) :: (EO es2 ++ GO gs)).Perm ((g, MO.dN (gKs _) (gDs _)) :: (EO es2 ++ GO (gs ++ [((c, d), q, [u - v])])))
                    refine (List.Perm.swap _ _ _).trans (List.Perm.cons _ ?_)
                    have e3 : GO (gs ++ [((c, d), q, [u - v])]) = GO gs ++ [(q, bd [u - v])] := by simp [GO]
                    rw [e3, ← List.append_assoc]
                    exact (List.perm_append_singleton _ _).symm
                  refine dss_perm hset ?_
                  repeat walk_at "d"
                  refine ⟨hdk2, _, _, _, _, rfl, rfl, fin _ (hG.new (gLk.2 hd') q (u - v))⟩
              · refine iF (by simp [hv0]) ?_
                repeat walk_at "d"
                exact ⟨hdk2, _, _, _, gs, rfl, rfl, same fun h => hv0 h.2⟩
          · subst e1 e2
            have hck3 : (List.map D.int (rngI 0 k)).length = k := by simp [rngI]
            rw [hck3] at hG
            repeat walk_at "d"
            refine ⟨hck, _, _, _, _, es2, gs, rfl, rfl, hp2, hE2, hG.cong fun a b x => ?_⟩
            constructor
            · rintro (h | ⟨h, h'⟩ | ⟨h, _, h'⟩)
              · exact .inl h
              · exact .inr ⟨by omega, h'⟩
              · exact .inr ⟨by omega, h'⟩
            · rintro (h | ⟨h, h'⟩)
              · exact .inl h
              · by_cases hac : a = c
                · refine .inr (.inr ⟨hac, ?_, h'⟩)
                  obtain ⟨_, _, _, _, q2, _⟩ := h'
                  have := (List.getElem?_eq_some_iff.mp q2).1
                  omega
                · exact .inr (.inl ⟨by omega, h'⟩)
        · refine iF (by simp [hu0]) ?_
          repeat walk_at "d"
          refine ⟨hck, _, _, _, _, es, gs, rfl, rfl, hp, hE.cong fun j x => ?_, hG.cong fun a b x => ?_⟩
          · constructor
            · rintro (h | ⟨h, h'⟩)
              · exact .inl h
              · exact .inr ⟨by omega, h'⟩
            · rintro (h | ⟨h, h'⟩)
              · exact .inl h
              · by_cases hjc : j = c
                · subst hjc
                  have := h'.1
                  rw [hu] at this
                  cases this
                  exact absurd h'.2 hu0
                · exact .inr ⟨by omega, h'⟩
          · constructor
            · rintro (h | ⟨h, h'⟩)
              · exact .inl h
              · exact .inr ⟨by omega, h'⟩
            · rintro (h | ⟨h, h'⟩)
              · exact .inl h
              · by_cases hac : a = c
                · subst hac
                  obtain ⟨_, u', _, q1, _, q3, _⟩ := h'
                  rw [hu] at q1
                  cases q1
                  exact absurd q3 hu0
                · exact .inr ⟨by omega, h'⟩
      · subst e1 e2
        have hck : (List.map D.int (rngI 0 k)).length = k := by simp [rngI]
        rw [hck] at hE hG
        repeat walk_at "d"
        refine ⟨hlt, _, _, _, _, _, _, es, gs, rfl, rfl, hp, hE.cong fun j x => ?_, hG.cong fun a b x => ?_⟩
        · rw [List.take_add_one, hri]
          constructor
          · rintro (⟨r', h, h'⟩ | ⟨_, h⟩)
            · exact ⟨r', List.mem_append_left _ h, h'⟩
            · exact ⟨r, by simp, h⟩
          · rintro ⟨r', h, h'⟩
            rcases List.mem_append.mp h with h | h
            · exact .inl ⟨r', h, h'⟩
            · simp at h; subst h
              refine .inr ⟨?_, h'⟩
              have := (List.getElem?_eq_some_iff.mp h'.1).1
              omega
        · rw [List.take_add_one, hri]
          constructor
          · rintro (⟨r', h, h'⟩ | ⟨_, h⟩)
            · exact ⟨r', List.mem_append_left _ h, h'⟩
            · exact ⟨r, by simp, h⟩
          · rintro ⟨r', h, h'⟩
            rcases List.mem_append.mp h with h | h
            · exact .inl ⟨r', h, h'⟩
            · simp at h; subst h
              refine .inr ⟨?_, h'⟩
              obtain ⟨_, u, v, hu, _⟩ := h'
              have := (List.getElem?_eq_some_iff.mp hu).1
              omega
    · subst e1 e2
      rw [List.length_map, List.take_length] at hE hG
      walk_at "d"
      walk_at "d"
      have hAE : ∀ j x, (∃ r ∈ rows, EndR' r j x) → ∃ r ∈ rows, EndR' r j x := fun _ _ h => h
      have hAG : ∀ a b x, (∃ r ∈ rows, GapR r a b x) → ∃ r ∈ rows, GapR r a b x := fun _ _ _ h => h
      have hfew := hG.few h3 hrow hAG
      have hel : es.length = k := hE.len
      rw [← hp]
      refine de_drop ?_
      walk_at "d"
      walk_at "d"
      refine de_lc (Oz := []) (own := [("end", 8)]) rfl hN (blkOk_by (by kernel_rfl)) (by decide) (by intro _; rfl) (di_lst ?_)
      repeat walk_at "d"
      refine ⟨_, rfl, lcd_map es (fun e => rawA e.1) (fun e => liD e.2) (sz1000 (by omega)) rfl (fun e he => ?_) ?_⟩
      · obtain ⟨j, hj⟩ := List.mem_iff_getElem?.mp he
        intro _ _ _ _ _
        repeat walk_at "d"
        intro _ _ _ _ _
        refine de_callTy (call_listD rfl) rfl B.list boot_list (by decide) (by decide) rfl rfl ?_
        repeat walk_at "d"
        refine rc_listDK (dkd_own (eo_get hj g gs)) ⟨?_, rfl⟩
        rw [List.map_map]
        rfl
      walk_at "d"
      refine de_lock (i := 0) (p := g) (ks := gKs gs) (ds := gDs gs) rfl fun od uu => ?_
      refine de_dcN (Oz := [(g, .dNz od uu (gKs gs) (gDs gs))]) (own := [("pair", 9)]) hu9 rfl hN (blkOk_by (by kernel_rfl)) (by intro _; rfl) (di_keysN ?_)
      repeat walk_at "d"
      refine ⟨rfl, List.mem_cons_self, ?_⟩
      refine ⟨fun i ks vs O' => i ≤ gs.length ∧ ks = (gs.take i).map (fun x => pairK x.1) ∧ vs = (gs.take i).map (fun x => liD x.2.2) ∧ O' = (g, .dNz od uu (gKs gs) (gDs gs)) :: (EO es ++ GO gs), ⟨Nat.zero_le _, rfl, rfl, rfl⟩, fun i d ks vs O' hd ⟨hi, e1, e2, e3⟩ => ?_, fun i ks vs O' ⟨_, _, _, e3⟩ q hq => ?_, fun ks vs O' ⟨_, e1, e2, e3⟩ pp => ?_⟩
      · subst e1 e2 e3
        unfold gKs at hd
        rw [List.map_map] at hd
        obtain ⟨x, hx, rfl⟩ := map_get hd
        obtain ⟨hlt, _⟩ := List.getElem?_eq_some_iff.mp hx
        intro _ _ _ _ _
        repeat walk_at "d"
        intro _ _ _ _ _
        repeat walk_at "d"
        intro _ _ _ _ _
        refine de_callTy (call_listD rfl) rfl B.list boot_list (by decide) (by decide) rfl rfl ?_
        walk_at "d"
        refine de_ixN hu9 (fun _ _ => rfl) ?_
        repeat walk_at "d"
        refine ⟨gKs gs, gDs gs, pairK x.1, rawA x.2.1, ⟨g, rfl, 0, .inr ⟨od, uu, rfl⟩⟩, rfl, ⟨_, rfl⟩, Nat.le_of_ble_eq_true rfl, kLk_nd hG.nk _ hx, ?_⟩
        repeat walk_at "d"
        have hgo : ((g, MO.dNz od uu (gKs gs) (gDs gs)) :: (EO es ++ GO gs))[es.length + i + 1]? = some (x.2.1, bd x.2.2) := go_get hx g
        refine rc_listDK (dkd_own hgo) ?_
        have hnot : pairK x.1 ∉ (gs.take i).map (fun x => pairK x.1) := by
          intro hm
          obtain ⟨y, hy, hye⟩ := List.mem_map.mp hm
          obtain ⟨m, hm2⟩ := List.mem_iff_getElem?.mp hy
          have hmi : m < i := by have := (List.getElem?_eq_some_iff.mp hm2).1; simp at this; omega
          rw [List.getElem?_take_of_lt hmi] at hm2
          have a1 : (gs.map (·.1))[i]? = some x.1 := map_at hx
          have a2 : (gs.map (·.1))[m]? = some x.1 := by rw [← pairK_inj hye]; exact map_at hm2
          have := (List.getElem?_inj (List.getElem?_eq_some_iff.mp a1).1 hG.nk).mp (a1.trans a2.symm)
          omega
        refine ⟨pairK x.1, rfl, ⟨_, rfl⟩, Nat.le_of_ble_eq_true rfl, Nat.lt_of_lt_of_le (show _ < 1000 by simp; omega) (by decide), hlt, ?_, ?_, rfl⟩
        · rw [kPutK_new hnot, List.take_add_one, hx]
          simp
        · rw [kPutV_new hnot, List.take_add_one, hx, List.map_map]
          simp [liD, keyD]
      · rw [e3]
        rw [List.mem_singleton.mp hq]
        exact List.mem_cons_self
      · subst e1 e2 e3
        have hgl : (List.map kD (gKs gs)).length = gs.length := by simp [gKs]
        rw [hgl, List.take_length]
        refine ⟨0, rfl, ?_⟩
        repeat walk_at "d"
        refine ⟨sz rfl, [(pp, .dN (gapL (gs.map fun x => (x.1, x.2.2))).1 (gapL (gs.map fun x => (x.1, x.2.2))).2)], ⟨_, List.Perm.refl _, ?_⟩, ?_⟩
        · unfold gapL
          rw [List.map_map, List.map_map]
          exact List.Sublist.cons _ (List.sublist_append_right (EO es ++ GO gs) _)
        · have hfin := kk (es.map (·.2)) (gs.map fun x => (x.1, x.2.2)) pp ⟨by rw [List.length_map]; exact hel, fun l hl => ?_, fun j l hl x => ?_, by rw [List.map_map]; exact hG.nk, fun y hy => ?_, fun a b x => ?_⟩
          · rw [List.map_map] at hfin
            exact hfin
          · obtain ⟨e, he, rfl⟩ := List.mem_map.mp hl
            exact hE.nd e he
          · obtain ⟨e, he, rfl⟩ : ∃ e, es[j]? = some e ∧ e.2 = l := by
              rw [List.getElem?_map] at hl
              cases hq : es[j]? with
              | none => rw [hq] at hl; cases hl
              | some e => rw [hq] at hl; exact ⟨e, rfl, Option.some.inj hl⟩
            exact hE.mem j e he x
          · obtain ⟨e, he, rfl⟩ := List.mem_map.mp hy
            exact hG.nd e he
          · rw [← hG.mem a b x]
            constructor
            · rintro ⟨y, hy, h1, h2⟩
              obtain ⟨e, he, rfl⟩ := List.mem_map.mp hy
              exact ⟨e, he, h1, h2⟩
            · rintro ⟨e, he, h1, h2⟩
              exact ⟨_, List.mem_map.mpr ⟨e, he, rfl⟩, h1, h2⟩
end
end
section
/-! ### corners_of -/
abbrev PRow := List (Nat × Int)
def prN (q : Nat × Int) : D := .tup [.int (q.1 : Int), .int q.2]
def Stop1 (rows : List WRow) (row : PRow) (c : Nat) (x : Int) : Prop := 0 ≤ x ∧ ((x = 0 ∨ ∃ r ∈ rows, EndR' r c x) ∨ ∃ q ∈ row, ∃ g, (∃ r ∈ rows, GapR r c q.1 g) ∧ x = q.2 + g)
/-- prices placed one kind after another -/
inductive Placed (rows : List WRow) : List Nat → PRow → Prop
  | nil : Placed rows [] []
  | snoc {o : List Nat} {row : PRow} {c : Nat} {x : Int} : Placed rows o row → Stop1 rows row c x → Placed rows (o ++ [c]) (row ++ [(c, x)])
theorem Placed.fst {rows : List WRow} {o : List Nat} {row : PRow} (h : Placed rows o row) : row.map (·.1) = o := by
  induction h with
  | nil => rfl
  | snoc _ _ ih => rw [List.map_append, ih]; rfl
theorem Placed.snoc_iff {rows : List WRow} {o : List Nat} {c : Nat} {row' : PRow} : Placed rows (o ++ [c]) row' ↔ ∃ row, Placed rows o row ∧ ∃ x, Stop1 rows row c x ∧ row' = row ++ [(c, x)] := by
  constructor
  · intro h
    generalize ho : o ++ [c] = o' at h
    cases h with
    | nil => simp at ho
    | snoc h1 h2 =>
      obtain ⟨e1, e2⟩ := List.append_inj' ho rfl
      cases e2
      subst e1
      exact ⟨_, h1, _, h2, rfl⟩
  · rintro ⟨row, h1, x, h2, rfl⟩
    exact .snoc h1 h2
theorem Placed.nil_iff {rows : List WRow} {row : PRow} : Placed rows [] row ↔ row = [] := by
  constructor
  · intro h
    have := h.fst
    simpa using this
  · rintro rfl
    exact .nil
def natOrders : Nat → List (List Nat)
  | 1 => [[0]]
  | 2 => [[0, 1], [1, 0]]
  | 3 => [[0, 1, 2], [0, 2, 1], [1, 0, 2], [1, 2, 0], [2, 0, 1], [2, 1, 0]]
  | _ => []
def prOf (row : PRow) (j : Nat) : Int := ((row.find? fun q => q.1 == j).map (·.2)).getD 0
def cornerP (k : Nat) (row : PRow) : List Int := (List.range k).map (prOf row)
def IsCorner (rows : List WRow) (k : Nat) (p : List Int) : Prop := ∃ o ∈ natOrders k, ∃ row, Placed rows o row ∧ p = cornerP k row
theorem orders_nat : ∀ k, 1 ≤ k → k ≤ 3 → permsF 4 (rngI 0 k) = (natOrders k).map (·.map fun (j : Nat) => (j : Int)) := by
  intro k h1 h2
  have : k = 1 ∨ k = 2 ∨ k = 3 := by omega
  rcases this with rfl | rfl | rfl <;> decide +kernel
theorem order_perm : ∀ k, 1 ≤ k → k ≤ 3 → ∀ o ∈ natOrders k, o.Perm (List.range k) := by
  intro k h1 h2
  have : k = 1 ∨ k = 2 ∨ k = 3 := by omega
  rcases this with rfl | rfl | rfl <;> decide +kernel
theorem orders_len : ∀ k, 1 ≤ k → k ≤ 3 → (natOrders k).length ≤ 6 := by
  intro k h1 h2
  have : k = 1 ∨ k = 2 ∨ k = 3 := by omega
  rcases this with rfl | rfl | rfl <;> decide
/-- a list of pairs with rising firsts is told by its members -/
theorem rise_eq : ∀ {l m : List (Int × Int)}, l.Perm m → l.Pairwise (fun x y => x.1 < y.1) → m.Pairwise (fun x y => x.1 < y.1) → l = m
  | [], m, h, _, _ => by rw [List.nil_perm.mp h]
  | x :: l, [], h, _, _ => absurd h.length_eq (by simp)
  | x :: l, y :: m, h, hl, hm => by
    have hx : x = y := by
      rcases List.mem_cons.mp (h.mem_iff.mp List.mem_cons_self) with e | h1
      · exact e
      · rcases List.mem_cons.mp (h.mem_iff.mpr List.mem_cons_self) with e | h2
        · exact e.symm
        · have a := (List.pairwise_cons.mp hm).1 x h1
          have b := (List.pairwise_cons.mp hl).1 y h2
          omega
    subst hx
    rw [rise_eq (List.perm_cons _ |>.mp h) (List.pairwise_cons.mp hl).2 (List.pairwise_cons.mp hm).2]
theorem prOf_mem {row : PRow} (hn : (row.map (·.1)).Nodup) {q : Nat × Int} (hq : q ∈ row) : prOf row q.1 = q.2 := by
  unfold prOf
  induction row with
  | nil => cases hq
  | cons z row ih =>
    rw [List.map_cons, List.nodup_cons] at hn
    rcases List.mem_cons.mp hq with rfl | hq
    · simp
    · have hne : z.1 ≠ q.1 := fun e => hn.1 (by rw [e]; exact List.mem_map.mpr ⟨q, hq, rfl⟩)
      have hb : (z.1 == q.1) = false := by simpa using hne
      rw [List.find?_cons, hb]
      exact ih hn.2 hq
theorem sorted_row {k : Nat} {o : List Nat} {row : PRow} (ho : o.Perm (List.range k)) (hr : row.map (·.1) = o) {qs : List (Int × Int)} (hp : qs.Perm (row.map fun q => ((q.1 : Int), q.2))) (hs : qs.Pairwise (fun x y => SrtO.lexB y x = false)) :
    qs.map (·.2) = cornerP k row := by
  have hnd : (row.map (·.1)).Nodup := by rw [hr]; exact ho.nodup_iff.mpr List.nodup_range
  have e : qs = (List.range k).map fun (j : Nat) => ((j : Int), prOf row j) := by
    refine rise_eq (hp.trans ?_) ?_ ?_
    · have h1 : (row.map fun q => ((q.1 : Int), q.2)) = o.map fun (j : Nat) => ((j : Int), prOf row j) := by
        rw [← hr, List.map_map]
        apply List.map_congr_left
        intro q hq
        show _ = ((q.1 : Int), prOf row q.1)
        rw [prOf_mem hnd hq]
      rw [h1]
      exact ho.map _
    · have hn2 : (qs.map (·.1)).Nodup := by
        have h2 : (qs.map (·.1)).Perm ((row.map (·.1)).map fun (j : Nat) => (j : Int)) := by
          have := hp.map (·.1)
          rw [List.map_map] at this ⊢
          exact this
        refine h2.nodup_iff.mpr ?_
        exact List.Pairwise.map _ (fun a b h e => h (by omega)) hnd
      have hn3 : qs.Pairwise (fun x y => x.1 ≠ y.1) := List.pairwise_map.mp hn2
      refine List.Pairwise.imp₂ (fun x y h1 h2 => ?_) hs hn3
      have := SrtO.lexB_no.mp h1
      omega
    · rw [List.pairwise_map]
      exact List.Pairwise.imp (fun {a b} h => by show (a : Int) < (b : Int); omega) List.pairwise_lt_range
  rw [e, List.map_map]
  rfl
def kT (p : List Int) : NestedKey := .tup (p.map .num)
theorem kDs_num : ∀ p : List Int, kDs (p.map .num) = p.map D.int
  | [] => rfl
  | x :: p => by rw [List.map_cons, kDs, kDs_num p]; rfl
theorem kD_T (p : List Int) : kD (kT p) = .tup (p.map D.int) := by unfold kT; rw [kD, kDs_num]
theorem kT_inj {p q : List Int} (h : kT p = kT q) : p = q := by
  unfold kT at h
  injection h with h
  exact (List.map_inj_right (fun _ _ e => NestedKey.num.inj e)).mp h
theorem depthAll_num : ∀ p : List Int, NestedKey.depthAll (p.map .num) = 0
  | [] => rfl
  | x :: p => by rw [List.map_cons, NestedKey.depthAll, depthAll_num p]; rfl
theorem kT_depth (p : List Int) : (kT p).depth ≤ 8 := by unfold kT; rw [NestedKey.depth, depthAll_num]; decide
def putL (l : List (List Int)) (x : List Int) : List (List Int) := if x ∈ l then l else l ++ [x]
theorem mem_putL {l : List (List Int)} {x y : List Int} : y ∈ putL l x ↔ y ∈ l ∨ y = x := by
  unfold putL
  split
  · constructor
    · exact .inl
    · rintro (h | rfl)
      · exact h
      · assumption
  · simp
theorem putL_len (l : List (List Int)) (x : List Int) : (putL l x).length ≤ l.length + 1 := by
  unfold putL; split <;> simp
/-- an owned dict that holds a set of int tuples -/
def sT (l : List (List Int)) : MO := .dN (l.map kT) (l.map fun _ => .bl true)
theorem sT_put (l : List (List Int)) (x : List Int) : MO.dN (kPutK (l.map kT) (kT x)) (kPutV (l.map kT) (l.map fun _ => D.bl true) (kT x) (.bl true)) = sT (putL l x) := by
  have hm : kT x ∈ l.map kT ↔ x ∈ l := ⟨fun h => by obtain ⟨y, hy, e⟩ := List.mem_map.mp h; rw [← kT_inj e]; exact hy, fun h => List.mem_map.mpr ⟨x, h, rfl⟩⟩
  unfold sT putL
  by_cases h : x ∈ l
  · rw [if_pos h, kPutK_old (hm.mpr h)]
    congr 1
    unfold kPutV
    rw [if_pos (kHas_mem.mpr (hm.mpr h)), List.zip_map', List.map_map]
    apply List.map_congr_left
    intro y _
    simp
  · rw [if_neg h, kPutK_new (fun z => h (hm.mp z)), kPutV_new (fun z => h (hm.mp z)), List.map_append, List.map_append]
    rfl
def glook (gs : List ((Nat × Nat) × List Int)) (c : Nat × Nat) : List Int := match gs.find? (fun g => decide (g.1 = c)) with | some g => g.2 | none => []
theorem glook_lk {gs : List ((Nat × Nat) × List Int)} {c : Nat × Nat} : (kLk (gapL gs).1 (gapL gs).2 (pairK c)).getD (.lst []) = liD (glook gs c) := by
  unfold glook gapL
  induction gs with
  | nil => rfl
  | cons g gs ih =>
    show (if pairK g.1 = pairK c then some (liD g.2) else kLk _ _ _).getD _ = _
    by_cases hp : g.1 = c
    · rw [if_pos (by rw [hp]), List.find?_cons, decide_eq_true hp]
      rfl
    · rw [if_neg fun e => hp (pairK_inj e), List.find?_cons, decide_eq_false hp]
      exact ih
theorem glook_mem {gs : List ((Nat × Nat) × List Int)} (hn : (gs.map (·.1)).Nodup) {c : Nat × Nat} {x : Int} : x ∈ glook gs c ↔ ∃ g ∈ gs, g.1 = c ∧ x ∈ g.2 := by
  unfold glook
  induction gs with
  | nil => simp
  | cons g gs ih =>
    rw [List.map_cons, List.nodup_cons] at hn
    rw [List.find?_cons]
    by_cases hp : g.1 = c
    · rw [decide_eq_true hp]
      constructor
      · intro h
        exact ⟨g, List.mem_cons_self, hp, h⟩
      · rintro ⟨g', hg', h1, h2⟩
        rcases List.mem_cons.mp hg' with rfl | h3
        · exact h2
        · exact absurd (List.mem_map.mpr ⟨g', h3, h1.trans hp.symm⟩) hn.1
    · rw [decide_eq_false hp]
      show x ∈ (match gs.find? _ with | some g => g.2 | none => []) ↔ _
      rw [ih hn.2]
      constructor
      · rintro ⟨g', h3, h1, h2⟩
        exact ⟨g', List.mem_cons_of_mem _ h3, h1, h2⟩
      · rintro ⟨g', hg', h1, h2⟩
        rcases List.mem_cons.mp hg' with rfl | h3
        · exact absurd h1 hp
        · exact ⟨g', h3, h1, h2⟩
def fsCorners : FS := fun ds O post => ∃ (rows : List WRow) (k : Nat), ds = [.lst (rows.map wrowD), .int (k : Int)] ∧ 1 ≤ k ∧ k ≤ 3 ∧ rows.length ≤ 10 ∧ (∀ r ∈ rows, r.2.length = k) ∧ O = [] ∧
  ∀ L : List (List Int), (∀ p, p ∈ L ↔ IsCorner rows k p) → post (.lst (L.map fun p => .tup (p.map D.int))) []
abbrev sCorners : Stmt := topS 26
theorem scCorners : FnScope ["rows", "kinds", "ends", "gaps", "found", "order", "known", "kind", "longer", "row", "stops", "other", "price", "gap", "stop"] ["rows", "kinds"] (defScope sCorners) := ⟨rfl, rfl, rfl, by decide +kernel, rfl, by decide +kernel, by decide +kernel⟩
/-- the stops of a kind behind a row, as the program lists them -/
def stopsL (e : List Int) (gs : List ((Nat × Nat) × List Int)) (c : Nat) (row : PRow) : List Int := e ++ row.flatMap fun q => (glook gs (c, q.1)).map fun g => q.2 + g
theorem stopsL_mem {rows : List WRow} {k : Nat} {es : List (List Int)} {gs : List ((Nat × Nat) × List Int)} (S : Stops rows k es gs) {c : Nat} {e : List Int} (he : es[c]? = some e) {row : PRow} {x : Int} : (x ∈ stopsL e gs c row ∧ 0 ≤ x) ↔ Stop1 rows row c x := by
  unfold stopsL Stop1
  rw [List.mem_append, S.mem c e he x, List.mem_flatMap, And.comm]
  refine and_congr Iff.rfl (or_congr Iff.rfl ?_)
  constructor
  · rintro ⟨q, hq, h⟩
    obtain ⟨g, hg, rfl⟩ := List.mem_map.mp h
    exact ⟨q, hq, g, (S.gmem _ _ _).mp ((glook_mem S.gnk).mp hg), rfl⟩
  · rintro ⟨q, hq, g, hg, rfl⟩
    exact ⟨q, hq, List.mem_map.mpr ⟨g, (glook_mem S.gnk).mpr ((S.gmem _ _ _).mpr hg), rfl⟩⟩
theorem Stops.elen {rows : List WRow} {k : Nat} {es : List (List Int)} {gs : List ((Nat × Nat) × List Int)} (S : Stops rows k es gs) {c : Nat} {e : List Int} (he : es[c]? = some e) : e.length ≤ rows.length + 1 := by
  have h1 := nodup_len (l := e) (m := 0 :: rows.filterMap fun r => r.2[c]?) (S.nd e (List.mem_of_getElem? he)) fun x hx => by
    rcases (S.mem c e he x).mp hx with rfl | ⟨r, hr, h2, _⟩
    · exact List.mem_cons_self
    · exact List.mem_cons_of_mem _ (List.mem_filterMap.mpr ⟨r, hr, h2⟩)
  have h2 := List.length_filterMap_le (fun r : WRow => r.2[c]?) rows
  rw [List.length_cons] at h1
  omega
theorem Stops.glen {rows : List WRow} {k : Nat} {es : List (List Int)} {gs : List ((Nat × Nat) × List Int)} (S : Stops rows k es gs) (c : Nat × Nat) : (glook gs c).length ≤ rows.length := by
  unfold glook
  cases hq : gs.find? (fun g => decide (g.1 = c)) with
  | none => simp
  | some g =>
    have hg := List.mem_of_find?_eq_some hq
    have h1 := nodup_len (l := g.2) (m := rows.map fun r => r.2.getD g.1.1 0 - r.2.getD g.1.2 0) (S.gnd g hg) fun x hx => by
      obtain ⟨r, hr, _, u, v, h2, h3, _, _, rfl⟩ := (S.gmem g.1.1 g.1.2 x).mp ⟨g, hg, rfl, hx⟩
      exact List.mem_map.mpr ⟨r, hr, by rw [List.getD_eq_getElem?_getD, List.getD_eq_getElem?_getD, h2, h3]; rfl⟩
    simpa using h1
theorem Stops.slen {rows : List WRow} {k : Nat} {es : List (List Int)} {gs : List ((Nat × Nat) × List Int)} (S : Stops rows k es gs) {c : Nat} {e : List Int} (he : es[c]? = some e) {row : PRow} (hr : rows.length ≤ 10) (h2 : row.length ≤ 2) : (stopsL e gs c row).length ≤ 31 := by
  unfold stopsL
  rw [List.length_append]
  have h3 := S.elen he
  have h4 := flatMap_len (f := fun q : Nat × Int => (glook gs (c, q.1)).map fun g => q.2 + g) (b := 10) (xs := row) fun q _ => by
    rw [List.length_map]
    exact Nat.le_trans (S.glen _) hr
  omega
end
section
def rowL (row : PRow) : D := .lst (row.map prN)
section
variable {P : Program} {w : World} {K : PySem.W.Frag} {mg : Str → Option Value} {base : Heap} {f : Addr} {fd : FuncData}
theorem ok_corners (F : FnP K "corners_of" sCorners f fd) (B : Bn mg) (G1 : Std P w K mg base 1 "stops_of" ["rows", "kinds"] fsStops) (G2 : Std P w K mg base 5 "orders_of" ["some"] (fsOrders 4)) : FnOk P w K mg base CX0 6 f fd ["rows", "kinds"] (spD P w fsCorners) := by
  refine fokX F scCorners (fun ds O post h => ?_) (fun cdv A outer s H E ds O post hr h => ?_)
  · obtain ⟨a, b, rfl, _⟩ := h; rfl
  · obtain ⟨rows, k, rfl, h1, h3, hrl, hrow, rfl, kk⟩ := h
    have hN := scCorners.nd
    have hu9 := room9 hr
    walk_at "d"
    refine ds_asg (ts := [2, 3]) ?_ rfl rfl rfl
    refine de_c0 G1 hr (by decide) rfl (by decide) rfl rfl ?_
    repeat walk_at "d"
    refine ⟨rows, k, rfl, h1, h3, by omega, hrow, rfl, fun es gs gp S => ?_⟩
    repeat walk_at "d"
    refine de_dnewN fun fp => ?_
    repeat walk_at "d"
    refine ds_for .never rfl (by intro _; rfl) (ts := [5]) (di_lst ?_)
    refine de_c0 G2 hr (by decide) rfl (by decide) rfl rfl ?_
    walk_at "d"
    walk_at "lrng1"
    repeat walk_at "d"
    refine ⟨_, rfl, by omega, by omega, ?_⟩
    repeat walk_at "d"
    refine ⟨rngI 0 k, by rw [Int.toNat_natCast, rngD_ints]; rfl, by simp [rngI]; omega, rfl, _, rfl, ?_⟩
    rw [orders_nat k h1 h3, List.map_map]
    refine ⟨fun i ρ O => i ≤ (natOrders k).length ∧ ∃ o1 o2 o3 o4 o5 o6 o7 o8 o9 o10 fks, ρ = [some (.lst (rows.map wrowD)), some (.int (k : Int)), some (.lst (es.map liD)), some (rawA gp), some (rawA fp), o1, o2, o3, o4, o5, o6, o7, o8, o9, o10] ∧
      O = [(fp, sT fks), (gp, .dN (gapL gs).1 (gapL gs).2)] ∧ (∀ p, p ∈ fks ↔ ∃ o ∈ (natOrders k).take i, ∃ row, Placed rows o row ∧ p = cornerP k row) ∧ fks.length ≤ i * 29791,
      ⟨Nat.zero_le _, _, _, _, _, _, _, _, _, _, _, [], rfl, rfl, by simp, by simp⟩, fun i d ρ O hd ⟨hi, o1, o2, o3, o4, o5, o6, o7, o8, o9, o10, fks, e1, e2, hf, hfl⟩ => ?_, fun ρ O ⟨hi, o1, o2, o3, o4, o5, o6, o7, o8, o9, o10, fks, e1, e2, hf, hfl⟩ => ?_⟩
    · subst e1 e2
      obtain ⟨o, ho, rfl⟩ := map_get hd
      obtain ⟨hlt, _⟩ := List.getElem?_eq_some_iff.mp ho
      have hol := orders_len k h1 h3
      have hop := order_perm k h1 h3 o (List.mem_of_getElem? ho)
      have holen : o.length = k := by rw [hop.length_eq, List.length_range]
      show DG _ _ _ (liD (o.map fun (j : Nat) => (j : Int))) _ _ _
      repeat walk_at "d"
      refine de_lst ?_
      walk_at "d"
      refine de_lst ?_
      repeat walk_at "d"
      refine ⟨sz rfl, ?_⟩
      repeat walk_at "d"
      refine ⟨sz rfl, ?_⟩
      repeat walk_at "d"
      refine ds_for .never rfl (by intro _; rfl) (ts := [7]) (di_lst ?_)
      repeat walk_at "d"
      refine ⟨_, rfl, ?_⟩
      rw [List.map_map]
      refine ⟨fun c ρ O => c ≤ o.length ∧ ∃ o3 o4 o5 o6 o7 o8 o9 o10 kn, ρ = [some (.lst (rows.map wrowD)), some (.int (k : Int)), some (.lst (es.map liD)), some (rawA gp), some (rawA fp), some (liD (o.map fun (j : Nat) => (j : Int))), some (.lst (kn.map rowL)), o3, o4, o5, o6, o7, o8, o9, o10] ∧
        O = [(fp, sT fks), (gp, .dN (gapL gs).1 (gapL gs).2)] ∧ (∀ row, row ∈ kn ↔ Placed rows (o.take c) row) ∧ kn.length ≤ 31 ^ c,
        ⟨Nat.zero_le _, _, _, _, _, _, _, _, _, [[]], rfl, rfl, fun row => by rw [List.take_zero, Placed.nil_iff]; simp, by decide⟩, fun c d ρ O hd ⟨hc, o3, o4, o5, o6, o7, o8, o9, o10, kn, e1, e2, hkn, hknl⟩ => ?_, fun ρ O ⟨hc, o3, o4, o5, o6, o7, o8, o9, o10, kn, e1, e2, hkn, hknl⟩ => ?_⟩
      · subst e1 e2
        obtain ⟨cn, hcn, rfl⟩ := map_get hd
        obtain ⟨hltc, _⟩ := List.getElem?_eq_some_iff.mp hcn
        have hck : cn < k := by have := hop.mem_iff.mp (List.mem_of_getElem? hcn); simpa using this
        obtain ⟨e, he⟩ : ∃ e, es[cn]? = some e := ⟨_, List.getElem?_eq_getElem (by rw [S.len]; omega)⟩
        have hc3 : c < 3 := by omega
        have hkn2 : kn.length ≤ 961 := Nat.le_trans hknl (Nat.pow_le_pow_right (by decide) (show c ≤ 2 by omega))
        show DG _ _ _ (.int (cn : Int)) _ _ _
        repeat walk_at "d"
        refine de_lst ?_
        repeat walk_at "d"
        refine ⟨sz rfl, ?_⟩
        repeat walk_at "d"
        refine ds_for .never rfl (by intro _; rfl) (ts := [9]) (di_lst ?_)
        repeat walk_at "d"
        refine ⟨_, rfl, fun m ρ O => m ≤ kn.length ∧ ∃ o5 o6 o7 o8 o9 o10 lg, ρ = [some (.lst (rows.map wrowD)), some (.int (k : Int)), some (.lst (es.map liD)), some (rawA gp), some (rawA fp), some (liD (o.map fun (j : Nat) => (j : Int))), some (.lst (kn.map rowL)), some (.int (cn : Int)), some (.lst (lg.map rowL)), o5, o6, o7, o8, o9, o10] ∧
          O = [(fp, sT fks), (gp, .dN (gapL gs).1 (gapL gs).2)] ∧ (∀ row', row' ∈ lg ↔ ∃ row ∈ kn.take m, ∃ x, Stop1 rows row cn x ∧ row' = row ++ [(cn, x)]) ∧ lg.length ≤ m * 31,
          ⟨Nat.zero_le _, _, _, _, _, _, _, [], rfl, rfl, by simp, by simp⟩, fun m d ρ O hd ⟨hm, o5, o6, o7, o8, o9, o10, lg, e1, e2, hlg, hlgl⟩ => ?_, fun ρ O ⟨hm, o5, o6, o7, o8, o9, o10, lg, e1, e2, hlg, hlgl⟩ => ?_⟩
        · subst e1 e2
          obtain ⟨row, hrw, rfl⟩ := map_get hd
          obtain ⟨hltm, _⟩ := List.getElem?_eq_some_iff.mp hrw
          have hplr := (hkn row).mp (List.mem_of_getElem? hrw)
          have hrowl : row.length = c := by
            have := congrArg List.length hplr.fst
            rw [List.length_map, List.length_take] at this
            omega
          have hsl := S.slen he hrl (row := row) (by omega)
          unfold rowL
          repeat walk_at "d"
          refine de_op op_cat ?_
          repeat walk_at "d"
          refine ⟨_, _, _, sqd_l, rfl, atI_nat (map_at he), ?_⟩
          refine de_lc2 (Oz := []) (Oz1 := []) (own := [("other", 11), ("price", 12), ("gap", 13)]) (vs1 := [13]) rfl hN (blkOk_by (by kernel_rfl)) (by decide) (by intro _; rfl) (by intro _ _; rfl) (di_lst ?_)
          repeat walk_at "d"
          refine ⟨_, rfl, fun i acc O' => i ≤ row.length ∧ acc = ((row.take i).flatMap fun q => (glook gs (cn, q.1)).map fun g => q.2 + g).map D.int ∧ O' = [(fp, sT fks), (gp, .dN (gapL gs).1 (gapL gs).2)], ⟨Nat.zero_le _, rfl, rfl⟩, fun i d acc O' hd ⟨hi, e1, e2⟩ => ?_, fun _ _ _ _ q hq => (nomatch hq), fun acc O' ⟨_, e1, e2⟩ => ?_⟩
          · subst e1 e2
            obtain ⟨q, hq, rfl⟩ := map_get hd
            obtain ⟨hltq, _⟩ := List.getElem?_eq_some_iff.mp hq
            have haccl : ((row.take i).flatMap fun q => (glook gs (cn, q.1)).map fun g => q.2 + g).length ≤ 20 := by
              refine Nat.le_trans (flatMap_len (b := 10) fun q _ => ?_) ?_
              · rw [List.length_map]; exact Nat.le_trans (S.glen _) hrl
              · have : (row.take i).length ≤ 2 := by rw [List.length_take]; omega
                omega
            have hgl := S.glen (cn, q.1)
            intro _ _ _ _ _
            unfold prN
            repeat walk_at "d"
            intro _ _ _ _ _
            refine di_lst ?_
            refine de_get2N hu9 ⟨rfl, rfl, rfl, rfl⟩ ?_
            repeat walk_at "d"
            refine ⟨⟨_, _, gp, rfl, 1, .inl rfl⟩, ?_⟩
            repeat walk_at "d"
            refine ⟨sz rfl, ?_⟩
            refine de_lst ?_
            repeat walk_at "d"
            refine ⟨sz rfl, _, _, pairK (cn, q.1), ⟨gp, rfl, 1, .inl rfl⟩, rfl, ⟨_, rfl⟩, Nat.le_of_ble_eq_true rfl, _, glook_lk, ?_⟩
            refine ⟨fun j acc1 O5 => j ≤ (glook gs (cn, q.1)).length ∧ acc1 = ((row.take i).flatMap fun q => (glook gs (cn, q.1)).map fun g => q.2 + g).map D.int ++ (((glook gs (cn, q.1)).take j).map fun g => q.2 + g).map D.int ∧ O5 = [(fp, sT fks), (gp, .dN (gapL gs).1 (gapL gs).2)], ⟨Nat.zero_le _, by simp, rfl⟩, fun j d1 acc1 O5 hd1 ⟨hj, e1, e2⟩ => ?_, fun _ _ _ _ q hq => (nomatch hq), fun acc1 O5 ⟨_, e1, e2⟩ => ⟨hltq, ?_, e2⟩⟩
            · subst e1 e2
              obtain ⟨g, hg, rfl⟩ := map_get hd1
              obtain ⟨hltj, _⟩ := List.getElem?_eq_some_iff.mp hg
              intro _ _ _ _ _
              repeat walk_at "d"
              intro _ _ _ _ _
              refine de_op op_add ?_
              repeat walk_at "d"
              refine rd_I0 ⟨?_, hltj, ?_, rfl⟩
              · rw [List.length_append, List.length_map, List.length_map, List.length_map]
                have h2 : ((glook gs (cn, q.1)).take j).length ≤ 10 := by rw [List.length_take]; omega
                exact Nat.lt_of_lt_of_le (show _ < 1000 by omega) (by decide)
              · rw [List.take_add_one, hg]
                simp
            · rw [e1, flatMap_take_succ hq, List.length_map, List.take_length, List.map_append]
          · subst e1 e2
            rw [List.length_map, List.take_length]
            have hsl2 : (e ++ row.flatMap fun q => (glook gs (cn, q.1)).map fun g => q.2 + g).length ≤ 31 := hsl
            rw [List.length_append] at hsl2
            refine rd_cat (.inl rfl) (.inl rfl) (sz1000 (by rw [List.length_map, List.length_map]; omega)) ?_
            have est : e.map D.int ++ (row.flatMap fun q => (glook gs (cn, q.1)).map fun g => q.2 + g).map D.int = (stopsL e gs cn row).map D.int := by unfold stopsL; rw [List.map_append]
            rw [est]
            repeat walk_at "d"
            refine de_op op_cat ?_
            repeat walk_at "d"
            refine de_lc (Oz := []) (own := [("stop", 14)]) rfl hN (blkOk_by (by kernel_rfl)) (by decide) (by intro _; rfl) (di_lst ?_)
            repeat walk_at "d"
            refine ⟨_, rfl, lcd_filter (stopsL e gs cn row) D.int (fun x => rowL (row ++ [(cn, x)])) (fun x => decide (0 ≤ x)) (sz1000 (by omega)) rfl (fun x hx => ?_) ?_⟩
            · intro _ _ _ _ _
              repeat walk_at "d"
              intro _ _ _ _ _
              refine dt_cmpR op_ge (nomark _) ?_
              repeat walk_at "d"
              refine rd_B0 ⟨_, rfl, rfl, ?_⟩
              by_cases hx0 : decide (0 ≤ x) = true
              · rw [if_pos hx0]
                intro _ _ _ _ _
                refine de_op op_cat ?_
                repeat walk_at "d"
                refine de_lst ?_
                repeat walk_at "d"
                refine ⟨sz rfl, ?_⟩
                repeat walk_at "d"
                refine ⟨sz rfl, rd_cat (.inl rfl) (.inl rfl) (sz1000 (by rw [List.length_map]; simp; omega)) ⟨?_, rfl⟩⟩
                unfold rowL
                rw [List.map_append]
                rfl
              · rw [if_neg hx0]
            · have hfl2 : ((stopsL e gs cn row).filter fun x => decide (0 ≤ x)).length ≤ 31 := Nat.le_trans (List.length_filter_le _ _) hsl
              have hlg2 : lg.length ≤ 29791 := by
                have := Nat.mul_le_mul_right 31 (show m ≤ 961 by omega)
                omega
              refine rd_cat (.inl rfl) (.inl rfl) ?_ ?_
              · rw [List.length_map, List.length_map]
                exact Nat.le_trans (show _ ≤ 30000 by omega) (by decide)
              have ecat : lg.map rowL ++ ((stopsL e gs cn row).filter fun x => decide (0 ≤ x)).map (fun x => rowL (row ++ [(cn, x)])) = (lg ++ ((stopsL e gs cn row).filter fun x => decide (0 ≤ x)).map fun x => row ++ [(cn, x)]).map rowL := by
                rw [List.map_append, List.map_map]
                rfl
              have eu : (fun row : PRow => D.lst (row.map prN)) = rowL := rfl
              rw [eu, ecat]
              repeat walk_at "d"
              refine ⟨hltm, _, _, _, _, _, _, _, rfl, rfl, fun row' => ?_, ?_⟩
              · rw [List.mem_append, hlg, List.take_add_one, hrw]
                constructor
                · rintro (⟨r0, h, h'⟩ | h)
                  · exact ⟨r0, List.mem_append_left _ h, h'⟩
                  · obtain ⟨x, hx, rfl⟩ := List.mem_map.mp h
                    obtain ⟨hx1, hx2⟩ := List.mem_filter.mp hx
                    exact ⟨row, by simp, x, (stopsL_mem S he).mp ⟨hx1, of_decide_eq_true hx2⟩, rfl⟩
                · rintro ⟨r0, h, x, hx, rfl⟩
                  rcases List.mem_append.mp h with h | h
                  · exact .inl ⟨r0, h, x, hx, rfl⟩
                  · simp at h; subst h
                    obtain ⟨hx1, hx2⟩ := (stopsL_mem S he).mpr hx
                    exact .inr (List.mem_map.mpr ⟨x, List.mem_filter.mpr ⟨hx1, decide_eq_true hx2⟩, rfl⟩)
              · rw [List.length_append, List.length_map, Nat.succ_mul]
                omega
        · subst e1 e2
          rw [List.length_map] at hlg hlgl
          rw [List.take_length] at hlg
          repeat walk_at "d"
          refine ⟨hltc, _, _, _, _, _, _, _, _, lg, rfl, rfl, fun row' => ?_, ?_⟩
          · rw [hlg, List.take_add_one, hcn]
            show _ ↔ Placed rows (o.take c ++ [cn]) row'
            rw [Placed.snoc_iff]
            constructor
            · rintro ⟨row, h, h'⟩
              exact ⟨row, (hkn row).mp h, h'⟩
            · rintro ⟨row, h, h'⟩
              exact ⟨row, (hkn row).mpr h, h'⟩
          · rw [Nat.pow_succ]
            exact Nat.le_trans hlgl (Nat.mul_le_mul_right _ hknl)
      · subst e1 e2
        rw [List.length_map] at hkn hknl
        rw [List.take_length] at hkn
        rw [holen] at hknl
        have hkn2 : kn.length ≤ 29791 := Nat.le_trans hknl (Nat.pow_le_pow_right (by decide) (show k ≤ 3 by omega))
        have hfl2 : fks.length ≤ 178746 := by
          have := Nat.mul_le_mul_right 29791 (show i ≤ 6 by omega)
          omega
        repeat walk_at "d"
        refine ds_for .never rfl (by intro _; rfl) (ts := [9]) (di_lst ?_)
        repeat walk_at "d"
        refine ⟨_, rfl, fun m ρ O => m ≤ kn.length ∧ ∃ q6 q7 q8 q9 q10 q11 q12 q13 q14 fk2, ρ = [some (.lst (rows.map wrowD)), some (.int (k : Int)), some (.lst (es.map liD)), some (rawA gp), some (rawA fp), some (liD (o.map fun (j : Nat) => (j : Int))), q6, q7, q8, q9, q10, q11, q12, q13, q14] ∧
          O = [(fp, sT fk2), (gp, .dN (gapL gs).1 (gapL gs).2)] ∧ (∀ p, p ∈ fk2 ↔ p ∈ fks ∨ ∃ row ∈ kn.take m, p = cornerP k row) ∧ fk2.length ≤ fks.length + m,
          ⟨Nat.zero_le _, _, _, _, _, _, _, _, _, _, fks, rfl, rfl, by simp, Nat.le_refl _⟩, fun m d ρ O hd ⟨hm, q6, q7, q8, q9, q10, q11, q12, q13, q14, fk2, e1, e2, hfk, hfkl⟩ => ?_, fun ρ O ⟨hm, q6, q7, q8, q9, q10, q11, q12, q13, q14, fk2, e1, e2, hfk, hfkl⟩ => ?_⟩
        · subst e1 e2
          obtain ⟨row, hrw, rfl⟩ := map_get hd
          obtain ⟨hltm, _⟩ := List.getElem?_eq_some_iff.mp hrw
          have hplr := (hkn row).mp (List.mem_of_getElem? hrw)
          have hrowl : row.length = k := by
            have := congrArg List.length hplr.fst
            rw [List.length_map] at this
            omega
          unfold rowL
          repeat walk_at "d"
          refine ds_asg (ts := []) ?_ rfl rfl rfl
          repeat walk_at "d"
          refine dg_sub (set_nd hu9) (by intro _; rfl) ?_
          repeat walk_at "d"
          walk_at "tupof"
          walk_at "d"
          refine de_lc (Oz := []) (own := [("kind", 7), ("price", 12)]) rfl hN (blkOk_by (by kernel_rfl)) (by decide) (by intro _; rfl) (di_lst ?_)
          walk_at "sortedP"
          repeat walk_at "d"
          have erow : row.map prN = (row.map fun q => ((q.1 : Int), q.2)).map prI := by rw [List.map_map]; rfl
          rw [erow]
          refine rc_sortedP fun qs hp hs => ?_
          have hqs := sorted_row hop hplr.fst hp hs
          have hql : qs.length ≤ 1000 := by have := hp.length_eq; rw [List.length_map] at this; omega
          refine ⟨_, rfl, lcd_map qs prI (fun q => .int q.2) (sz1000 hql) rfl (fun q hq => ?_) ?_⟩
          · intro _ _ _ _ _
            unfold prI
            repeat walk_at "d"
            intro _ _ _ _ _
            repeat walk_at "d"
            exact ⟨rfl, rfl⟩
          · repeat walk_at "d"
            refine rc_tup sqd_l ?_
            have ek : D.tup (qs.map fun q => D.int q.2) = kD (kT (cornerP k row)) := by
              rw [kD_T, ← hqs, List.map_map]
              rfl
            refine std_dn (ks := fk2.map kT) (ds := fk2.map fun _ => .bl true) (j := 0) ek ⟨_, rfl⟩ (kT_depth _) rfl ?_ ?_
            · rw [List.length_map]
              exact Nat.lt_of_lt_of_le (show _ < 300000 by omega) (by decide)
            · rw [sT_put]
              repeat walk_at "d"
              refine ⟨hltm, _, _, _, _, _, _, _, _, _, _, rfl, rfl, fun p => ?_, ?_⟩
              · rw [mem_putL, hfk, List.take_add_one, hrw]
                constructor
                · rintro ((h | ⟨r0, h, h'⟩) | rfl)
                  · exact .inl h
                  · exact .inr ⟨r0, List.mem_append_left _ h, h'⟩
                  · exact .inr ⟨row, by simp, rfl⟩
                · rintro (h | ⟨r0, h, h'⟩)
                  · exact .inl (.inl h)
                  · rcases List.mem_append.mp h with h | h
                    · exact .inl (.inr ⟨r0, h, h'⟩)
                    · simp at h; subst h
                      exact .inr h'
              · have := putL_len fk2 (cornerP k row)
                omega
        · subst e1 e2
          rw [List.length_map] at hfk hfkl
          rw [List.take_length] at hfk
          repeat walk_at "d"
          refine ⟨hlt, _, _, _, _, _, _, _, _, _, _, fk2, rfl, rfl, fun p => ?_, ?_⟩
          · rw [hfk, hf, List.take_add_one, ho]
            have hkn' : ∀ row, row ∈ kn ↔ Placed rows o row := hkn
            constructor
            · rintro (⟨o', h, h'⟩ | ⟨row, h, h'⟩)
              · exact ⟨o', List.mem_append_left _ h, h'⟩
              · exact ⟨o, by simp, row, (hkn' row).mp h, h'⟩
            · rintro ⟨o', h, row, h', h''⟩
              rcases List.mem_append.mp h with h | h
              · exact .inl ⟨o', h, row, h', h''⟩
              · simp at h; subst h
                exact .inr ⟨row, (hkn' row).mpr h', h''⟩
          · rw [Nat.succ_mul]; omega
    · subst e1 e2
      rw [List.length_map, List.take_length] at hf
      walk_at "d"
      walk_at "d"
      refine de_drop ?_
      refine de_callTy (call_listN rfl) rfl B.list boot_list (by decide) (by decide) rfl rfl ?_
      repeat walk_at "d"
      refine rc_listN ⟨fp, rfl, 0, .inl rfl⟩ ⟨[], ⟨_, List.Perm.refl _, List.nil_sublist _⟩, ?_⟩
      have e : (fks.map kT).map kD = fks.map fun p => D.tup (p.map D.int) := by
        rw [List.map_map]
        apply List.map_congr_left
        intro p _
        exact kD_T p
      rw [e]
      exact kk fks hf
end
end
section
/-! ### the numbers and rows that a caller passes -/
abbrev NumIn := D × Int × Int
structure NumOk (s : Int) (z : NumIn) : Prop where
  num : PNum z.1 z.2.1 z.2.2
  nn : 0 ≤ z.2.1
  lt : z.2.2 < 2 ^ 29
  dv : z.2.2 / Int.gcd z.2.1 z.2.2 ∣ s
def redN (z : NumIn) : Int × Int := (z.2.1 / Int.gcd z.2.1 z.2.2, z.2.2 / Int.gcd z.2.1 z.2.2)
theorem redD_eq (z : NumIn) : redD z.2.1 z.2.2 = pD (redN z) := rfl
structure RowIn where
  d : D
  w : Int
  dn : D
  zs : List NumIn
structure RowOk (k : Nat) (s : Int) (r : RowIn) : Prop where
  sh : r.d = .lst [.int r.w, r.dn] ∨ r.d = .tup [.int r.w, r.dn]
  dn : r.dn = .lst (r.zs.map (·.1)) ∨ r.dn = .tup (r.zs.map (·.1))
  len : r.zs.length = k
  ok : ∀ z ∈ r.zs, NumOk s z
def redR (r : RowIn) : Row := (r.w, r.zs.map redN)
def fsNeedB : FS := fun ds O post => ∃ k : Nat, ds = [.int (k : Int)] ∧ 1 ≤ k ∧ k ≤ 3 ∧ O = [] ∧ post .non []
abbrev sNeedB : Stmt := topS 32
theorem scNeedB : FnScope ["kinds"] ["kinds"] (defScope sNeedB) := ⟨rfl, rfl, rfl, by decide +kernel, rfl, by decide +kernel, by decide +kernel⟩
def fsPriceRow : FS := fun ds O post => ∃ (d : D) (zs : List NumIn) (s : Int), ds = [d, .int (zs.length : Int)] ∧ (d = .lst (zs.map (·.1)) ∨ d = .tup (zs.map (·.1))) ∧ zs.length ≤ 3 ∧ (∀ z ∈ zs, NumOk s z) ∧ O = [] ∧ post (.bl true) []
abbrev sPriceRow : Stmt := topS 34
theorem scPriceRow : FnScope ["value", "kinds", "number"] ["value", "kinds"] (defScope sPriceRow) := ⟨rfl, rfl, rfl, by decide +kernel, rfl, by decide +kernel, by decide +kernel⟩
def fsIsBid : FS := fun ds O post => ∃ (r : RowIn) (k : Nat) (s : Int), ds = [r.d, .int (k : Int)] ∧ k ≤ 3 ∧ RowOk k s r ∧ O = [] ∧ post (.bl true) []
abbrev sIsBid : Stmt := topS 35
theorem scIsBid : FnScope ["value", "kinds"] ["value", "kinds"] (defScope sIsBid) := ⟨rfl, rfl, rfl, by decide +kernel, rfl, by decide +kernel, by decide +kernel⟩
section
variable {P : Program} {w : World} {K : PySem.W.Frag} {mg : Str → Option Value} {base : Heap} {f : Addr} {fd : FuncData}
theorem ok_need_b (F : FnP K "need_kinds" sNeedB f fd) (B : Bn mg) (hM : ∃ t, mg "MOST_KINDS" = some (.int 3 t)) (G : Std P w K mg base 1 "is_whole" ["value"] fsIsWhole) : FnOk P w K mg base CX0 2 f fd ["kinds"] (spD P w fsNeedB) := by
  refine fokX F scNeedB (fun ds O post h => ?_) (fun cdv A outer s H E ds O post hr h => ?_)
  · obtain ⟨d, rfl, _⟩ := h; rfl
  · obtain ⟨k, rfl, h1, h3, rfl, kk⟩ := h
    have hN := scNeedB.nd
    repeat walk_at "d"
    walk_at "val"
    refine de_c0 G hr (by decide) rfl (by decide) rfl rfl ?_
    repeat walk_at "d"
    refine ⟨_, _, _, _, rfl, rfl, kb_ii, kb_ib, rfl, _, rfl, ?_⟩
    refine iF rfl ?_
    repeat walk_at "d"
    refine dt_chain op_le op_le (nomark _) (nomark _) (fun h1 h2 h3 => pt_chain op_le op_le h1 h2 h3) ?_
    repeat walk_at "d"
    refine ⟨1, k, rfl, rfl, ?_⟩
    refine iT (by simp; omega) ?_
    refine de_globI rfl hM (by decide) ?_
    refine ⟨3, rfl, ?_⟩
    refine iF (by simp; omega) ?_
    repeat walk_at "d"
    exact kk
theorem ok_price_row (F : FnP K "is_price_row" sPriceRow f fd) (B : Bn mg) (G1 : Std P w K mg base 2 "is_ratio" ["value"] fsIsRatio) (G2 : Std P w K mg base 3 "told" ["value", "what"] fsTold) : FnOk P w K mg base CX0 4 f fd ["value", "kinds"] (spD P w fsPriceRow) := by
  refine fokX F scPriceRow (fun ds O post h => ?_) (fun cdv A outer s H E ds O post hr h => ?_)
  · obtain ⟨d, a, b, rfl, _⟩ := h; rfl
  · obtain ⟨d, zs, sc, rfl, hd, hl, hz, rfl, kk⟩ := h
    have hN := scPriceRow.nd
    obtain ⟨T, b1, b2, hT, k1, k2, k3⟩ := ty_sq hd
    repeat walk_at "d"
    walk_at "val"
    walk_at "isiT"
    repeat walk_at "d"
    walk_at "tuple"
    repeat walk_at "d"
    walk_at "list"
    repeat walk_at "d"
    refine ⟨sz rfl, ?_⟩
    repeat walk_at "d"
    refine rc_isiT hT k1 k2 ⟨_, rfl, ?_⟩
    refine iF (by rw [k3]; rfl) ?_
    repeat walk_at "d"
    refine dt_cmpR op_ne (nomark _) ?_
    walk_at "len"
    repeat walk_at "d"
    refine rc_len (sqd_of hd) ?_
    repeat walk_at "d"
    refine rd_neI ⟨_, rfl, ?_⟩
    refine iF (by simp) ?_
    repeat walk_at "d"
    walk_at "val"
    walk_at "all"
    walk_at "d"
    refine de_lc (Oz := []) (own := [("number", 2)]) rfl hN (blkOk_by (by kernel_rfl)) (by decide) (by intro _; rfl) (di_sq hd ?_)
    repeat walk_at "d"
    refine ⟨rfl, lcd_map zs (fun z => z.1) (fun _ => .bl true) (sz1000 (by omega)) rfl (fun z hzz => ?_) ?_⟩
    · intro _ _ _ _ _
      repeat walk_at "d"
      intro _ _ _ _ _
      refine de_c0 G1 hr (by decide) rfl (by decide) rfl rfl ?_
      repeat walk_at "d"
      exact ⟨_, _, _, rfl, (hz z hzz).num, rfl, rfl, rfl⟩
    repeat walk_at "d"
    have e1 : zs.map (fun _ => D.bl true) = (zs.map fun _ => true).map D.bl := by rw [List.map_map]; rfl
    have e2 : (zs.map fun _ => true).all id = true := by simp
    rw [e1]
    refine rc_all ⟨_, rfl, ?_⟩
    refine iF (by rw [e2]; rfl) ?_
    repeat walk_at "d"
    walk_at "all"
    walk_at "d"
    refine de_lc (Oz := []) (own := [("number", 2)]) rfl hN (blkOk_by (by kernel_rfl)) (by decide) (by intro _; rfl) (di_sq hd ?_)
    repeat walk_at "d"
    refine ⟨rfl, lcd_map zs (fun z => z.1) (fun _ => .bl true) (sz1000 (by omega)) rfl (fun z hzz => ?_) ?_⟩
    · intro _ _ _ _ _
      repeat walk_at "d"
      intro _ _ _ _ _
      have ok := hz z hzz
      refine de_cmpR op_ge (nomark _) ?_
      repeat walk_at "d"
      refine de_c0 G2 hr (by decide) rfl (by decide) rfl rfl ?_
      repeat walk_at "d"
      refine ⟨_, _, _, _, rfl, ok.num, ok.lt, rfl, ?_⟩
      repeat walk_at "d"
      refine ⟨_, _, _, sqd_t, rfl, rfl, ?_⟩
      repeat walk_at "d"
      refine rd_B0 ⟨?_, rfl⟩
      have : (0 : Int) ≤ z.2.1 / Int.gcd z.2.1 z.2.2 := Int.ediv_nonneg ok.nn (by omega)
      rw [decide_eq_true this]
    repeat walk_at "d"
    rw [e1]
    refine rc_all ?_
    rw [e2]
    exact kk
theorem ok_is_bid (F : FnP K "is_bid" sIsBid f fd) (B : Bn mg) (G1 : Std P w K mg base 1 "is_whole" ["value"] fsIsWhole) (G2 : Std P w K mg base 4 "is_price_row" ["value", "kinds"] fsPriceRow) : FnOk P w K mg base CX0 5 f fd ["value", "kinds"] (spD P w fsIsBid) := by
  refine fokX F scIsBid (fun ds O post h => ?_) (fun cdv A outer s H E ds O post hr h => ?_)
  · obtain ⟨d, a, b, rfl, _⟩ := h; rfl
  · obtain ⟨r, k, sc, rfl, hk, ok, rfl, kk⟩ := h
    have hN := scIsBid.nd
    have hd := ok.sh
    obtain ⟨T, b1, b2, hT, k1, k2, k3⟩ := ty_sq hd
    repeat walk_at "d"
    walk_at "val"
    walk_at "isiT"
    repeat walk_at "d"
    walk_at "tuple"
    repeat walk_at "d"
    walk_at "list"
    repeat walk_at "d"
    refine ⟨sz rfl, ?_⟩
    repeat walk_at "d"
    refine rc_isiT hT k1 k2 ⟨_, rfl, ?_⟩
    refine iF (by rw [k3]; rfl) ?_
    repeat walk_at "d"
    refine dt_cmpR op_ne (nomark _) ?_
    walk_at "len"
    repeat walk_at "d"
    refine rc_len (sqd_of hd) ?_
    repeat walk_at "d"
    refine rd_neI ⟨_, rfl, iF rfl ?_⟩
    repeat walk_at "d"
    refine de_c0 G1 hr (by decide) rfl (by decide) rfl rfl ?_
    repeat walk_at "d"
    refine ⟨_, _, _, sqd_of hd, rfl, rfl, ?_⟩
    repeat walk_at "d"
    refine ⟨_, _, _, _, rfl, rfl, kb_ii, kb_ib, rfl, _, rfl, ?_⟩
    refine iT rfl ?_
    repeat walk_at "d"
    refine de_c0 G2 hr (by decide) rfl (by decide) rfl rfl ?_
    repeat walk_at "d"
    refine ⟨_, _, _, sqd_of hd, rfl, rfl, ?_⟩
    repeat walk_at "d"
    refine ⟨_, r.zs, sc, by rw [ok.len], ok.dn, by rw [ok.len]; exact hk, ok.ok, rfl, kk⟩
end
end
section
/-! ### plain_rows -/
abbrev PKey := List (Int × Int)
def pK (p : Int × Int) : NestedKey := .tup [.num p.1, .num p.2]
def kR (ps : PKey) : NestedKey := .tup (ps.map pK)
theorem pK_inj {p q : Int × Int} (h : pK p = pK q) : p = q := by
  unfold pK at h
  injection h with h
  injection h with h1 h2
  injection h1 with h1
  injection h2 with h2 _
  injection h2 with h2
  exact Prod.ext h1 h2
theorem kR_inj (p q : PKey) (h : kR p = kR q) : p = q := by
  unfold kR at h
  injection h with h
  exact (List.map_inj_right (fun _ _ e => pK_inj e)).mp h
theorem kDs_p : ∀ ps : PKey, kDs (ps.map pK) = ps.map pD
  | [] => rfl
  | p :: ps => by rw [List.map_cons, kDs, kDs_p ps]; rfl
theorem kD_R (ps : PKey) : kD (kR ps) = .tup (ps.map pD) := by unfold kR; rw [kD, kDs_p]
theorem depthAll_p : ∀ ps : PKey, NestedKey.depthAll (ps.map pK) ≤ 1
  | [] => by decide
  | p :: ps => by
    rw [List.map_cons, NestedKey.depthAll]
    have h1 := depthAll_p ps
    have h2 : (pK p).depth = 1 := rfl
    omega
theorem kR_depth (ps : PKey) : (kR ps).depth ≤ 8 := by unfold kR; rw [NestedKey.depth]; have := depthAll_p ps; omega
/-- the sum of the weights of a key -/
def tot (R : List Row) (ps : PKey) : Int := ((R.filter fun r => decide (r.2 = ps)).map (·.1)).sum
theorem tot_snoc (R : List Row) (r : Row) (ps : PKey) : tot (R ++ [r]) ps = tot R ps + if r.2 = ps then r.1 else 0 := by
  unfold tot
  rw [List.filter_append, List.map_append, List.sum_append]
  by_cases h : r.2 = ps
  · simp [h]
  · simp [h]
theorem tot_none {R : List Row} {ps : PKey} (h : ∀ r ∈ R, r.2 ≠ ps) : tot R ps = 0 := by
  unfold tot
  rw [List.filter_eq_nil_iff.mpr fun r hr => by simp [h r hr]]
  rfl
def anyPos (ps : PKey) : Bool := ps.any fun p => decide (0 < p.1)
/-- the plain rows of some rows, in some order -/
structure IsMerge (R rs : List Row) : Prop where
  nd : (rs.map (·.2)).Nodup
  mem : ∀ r, r ∈ rs ↔ r.1 = tot R r.2 ∧ r.1 ≠ 0 ∧ anyPos r.2 = true
def fsPlain : FS := fun ds O post => ∃ (rs : List RowIn) (k : Nat) (s : Int) (d : D), ds = [d] ∧ (d = .lst (rs.map RowIn.d) ∨ d = .tup (rs.map RowIn.d)) ∧ 1 ≤ k ∧ k ≤ 3 ∧ 0 < s ∧ s ≤ 1000 ∧ rs.length ≤ 100 ∧ (∀ r ∈ rs, RowOk k s r) ∧ O = [] ∧
  ∀ out, IsMerge (rs.map redR) out → post (.tup (out.map rowD)) []
abbrev sPlain : Stmt := topS 36
theorem scPlain : FnScope ["rows", "found", "weight", "numbers", "key", "by", "kept", "order", "number", "top", "bottom", "whole"] ["rows"] (defScope sPlain) := ⟨rfl, rfl, rfl, by decide +kernel, rfl, by decide +kernel, by decide +kernel⟩
/-- the item that is sorted -/
def itD (b : Int) (ps : PKey) : D := .tup [.tup (ps.map fun p => .int (p.1 * (b / p.2))), .tup (ps.map pD)]
theorem alike_pairs : ∀ xs ys : PKey, PySem.W.alikeAll (xs.map fun p => pyD (pD p)) (ys.map fun p => pyD (pD p)) = true
  | [], _ => by rw [List.map_nil, PySem.W.alikeAll]
  | x :: xs, [] => by rw [List.map_nil, List.map_cons, PySem.W.alikeAll]
  | x :: xs, y :: ys => by
    rw [List.map_cons, List.map_cons, PySem.W.alikeAll, alike_pairs xs ys]
    rfl
theorem itD_py (b : Int) (ps : PKey) : pyD (itD b ps) = .tuple [.tuple ((ps.map fun p => p.1 * (b / p.2)).map .int), .tuple (ps.map fun p => pyD (pD p))] := by
  unfold itD
  rw [pyD, pyDs, pyDs, pyDs, pyD, pyD, pyDs_map, pyDs_map, List.map_map, List.map_map, List.map_map]
  rfl
theorem depthAll_pairs : ∀ ps : PKey, PyData.depthAll (ps.map fun p => pyD (pD p)) ≤ 1
  | [] => by rw [List.map_nil, PyData.depthAll]; decide
  | p :: ps => by
    rw [List.map_cons, PyData.depthAll]
    have h1 := depthAll_pairs ps
    have h2 : (pyD (pD p)).depth = 1 := rfl
    omega
section
variable {P : Program} {w : World} {K : PySem.W.Frag} {mg : Str → Option Value} {base : Heap} {f : Addr} {fd : FuncData}
theorem ok_plain (F : FnP K "plain_rows" sPlain f fd) (B : Bn mg) (G1 : Std P w K mg base 3 "told" ["value", "what"] fsTold) (G2 : Std P w K mg base 2 "bottom_of" ["ratios"] fsBottom) : FnOk P w K mg base CX0 4 f fd ["rows"] (spD P w fsPlain) := by
  refine fokX F scPlain (fun ds O post h => ?_) (fun cdv A outer s H E ds O post hr h => ?_)
  · obtain ⟨d, a, b, c, rfl, _⟩ := h; rfl
  · obtain ⟨rs, k, sc, d, rfl, hd, hk1, hk3, hs0, hs1, hrl, hrs, rfl, kk⟩ := h
    have hN := scPlain.nd
    have hu9 := room9 hr
    walk_at "d"
    refine ds_st hN rfl (.inr rfl) rfl (.inl rfl) ?_
    refine de_dnewN fun fp => ?_
    repeat walk_at "d"
    refine ds_for .never rfl (by intro _; rfl) (ts := [2, 3]) (di_sq hd ?_)
    repeat walk_at "d"
    refine ⟨rfl, fun i ρ O => i ≤ rs.length ∧ ∃ o2 o3 o4 o5 o6 o7 o8 o9 o10 o11 fk, ρ = [some d, some (rawA fp), o2, o3, o4, o5, o6, o7, o8, o9, o10, o11] ∧ O = [(fp, .dN (fk.map kR) (fk.map fun ps => .int (tot ((rs.take i).map redR) ps)))] ∧ fk.Nodup ∧ fk.length ≤ i ∧ (∀ ps, ps ∈ fk ↔ ∃ r ∈ (rs.take i).map redR, r.2 = ps),
      ⟨Nat.zero_le _, _, _, _, _, _, _, _, _, _, _, [], rfl, rfl, List.nodup_nil, Nat.le_refl _, by simp⟩, fun i dd ρ O hdd ⟨hi, o2, o3, o4, o5, o6, o7, o8, o9, o10, o11, fk, e1, e2, hfn, hfl, hfm⟩ => ?_, fun ρ O ⟨hi, o2, o3, o4, o5, o6, o7, o8, o9, o10, o11, fk, e1, e2, hfn, hfl, hfm⟩ => ?_⟩
    · subst e1 e2
      obtain ⟨r, hri, rfl⟩ := map_get hdd
      obtain ⟨hlt, _⟩ := List.getElem?_eq_some_iff.mp hri
      have ok := hrs r (List.mem_of_getElem? hri)
      refine dg_sq ok.sh rfl rfl rfl ?_
      repeat walk_at "d"
      walk_at "tupof"
      walk_at "d"
      refine de_lc (Oz := []) (own := [("number", 8)]) rfl hN (blkOk_by (by kernel_rfl)) (by decide) (by intro _; rfl) (di_sq ok.dn ?_)
      repeat walk_at "d"
      refine ⟨rfl, lcd_map r.zs (fun z => z.1) (fun z => pD (redN z)) (sz1000 (by rw [ok.len]; omega)) rfl (fun z hz => ?_) ?_⟩
      · intro _ _ _ _ _
        repeat walk_at "d"
        intro _ _ _ _ _
        refine de_c0 G1 hr (by decide) rfl (by decide) rfl rfl ?_
        repeat walk_at "d"
        exact ⟨_, _, _, _, rfl, (ok.ok z hz).num, (ok.ok z hz).lt, rfl, rfl, rfl⟩
      repeat walk_at "d"
      refine rc_tup sqd_l ?_
      have ekey : D.tup (r.zs.map fun z => pD (redN z)) = kD (kR (redR r).2) := by
        rw [kD_R]
        unfold redR
        rw [List.map_map]
        rfl
      rw [ekey]
      have erow : (rs.take (i + 1)).map redR = (rs.take i).map redR ++ [redR r] := by rw [List.take_add_one, hri]; simp
      repeat walk_at "d"
      refine ds_asg (ts := []) ?_ rfl rfl rfl
      refine de_op op_add ?_
      refine de_get2N hu9 ⟨rfl, rfl, rfl, rfl⟩ ?_
      repeat walk_at "d"
      refine ⟨⟨_, _, fp, rfl, 0, .inl rfl⟩, ?_⟩
      repeat walk_at "d"
      refine ⟨_, _, kR (redR r).2, ⟨fp, rfl, 0, .inl rfl⟩, rfl, ⟨_, rfl⟩, kR_depth _, ?_⟩
      have eget : (kLk (fk.map kR) (fk.map fun ps => D.int (tot ((rs.take i).map redR) ps)) (kR (redR r).2)).getD (.int 0) = .int (tot ((rs.take i).map redR) (redR r).2) := by
        rw [lkG kR_inj]
        by_cases hm : (redR r).2 ∈ fk
        · rw [if_pos hm]; rfl
        · rw [if_neg hm, tot_none (fun q hq e => hm ((hfm _).mpr ⟨q, hq, e⟩))]
          rfl
      rw [eget]
      repeat walk_at "d"
      refine rd_I0 ?_
      refine dg_sub (set_nd hu9) (by intro _; rfl) ?_
      repeat walk_at "d"
      refine std_dn (ks := fk.map kR) (ds := fk.map fun ps => .int (tot ((rs.take i).map redR) ps)) (j := 0) rfl ⟨_, rfl⟩ (kR_depth _) rfl ?_ ?_
      · rw [List.length_map]
        exact Nat.lt_of_lt_of_le (show _ < 1000 by omega) (by decide)
      · have ew : D.int (tot ((rs.take i).map redR) (redR r).2 + r.w) = (fun ps => D.int (tot ((rs.take (i + 1)).map redR) ps)) (redR r).2 := by
          show _ = D.int (tot _ _)
          rw [erow, tot_snoc, if_pos rfl]
          rfl
        rw [ew, dn_putG kR_inj (g' := fun ps => D.int (tot ((rs.take (i + 1)).map redR) ps)) (fun y _ hy => by
          show D.int (tot _ _) = D.int (tot _ _)
          rw [erow, tot_snoc, if_neg (fun e => hy e.symm), Int.add_zero])]
        repeat walk_at "d"
        refine ⟨hlt, _, _, _, _, _, _, _, _, _, _, _, rfl, rfl, putG_nodup hfn, ?_, fun ps => ?_⟩
        · have := putG_len fk (redR r).2
          omega
        · rw [mem_putG, hfm, erow]
          constructor
          · rintro (⟨q, h, h'⟩ | rfl)
            · exact ⟨q, List.mem_append_left _ h, h'⟩
            · exact ⟨redR r, by simp, rfl⟩
          · rintro ⟨q, h, h'⟩
            rcases List.mem_append.mp h with h | h
            · exact .inl ⟨q, h, h'⟩
            · simp at h; subst h
              exact .inr h'.symm
    · subst e1 e2
      rw [List.length_map, List.take_length] at hfm
      rw [List.length_map] at hfl
      have eO : [(fp, MO.dN (fk.map kR) (fk.map fun ps => D.int (tot ((rs.take (rs.map RowIn.d).length).map redR) ps)))] = [(fp, .dN (fk.map kR) (fk.map fun ps => D.int (tot (rs.map redR) ps)))] := by rw [List.length_map, List.take_length]
      rw [eO]
      generalize hR : rs.map redR = R at hfm kk ⊢
      have hkey : ∀ ps ∈ fk, ps.length = k ∧ ∀ p ∈ ps, 0 < p.2 ∧ p.2 ∣ sc := fun ps hps => by
        obtain ⟨r, hr1, rfl⟩ := (hfm ps).mp hps
        rw [← hR] at hr1
        obtain ⟨ri, hri, rfl⟩ := List.mem_map.mp hr1
        have ok := hrs ri hri
        refine ⟨by show (ri.zs.map redN).length = k; rw [List.length_map, ok.len], fun p hp => ?_⟩
        obtain ⟨z, hz, rfl⟩ := List.mem_map.mp (show p ∈ ri.zs.map redN from hp)
        have ok2 := ok.ok z hz
        refine ⟨?_, ok2.dv⟩
        show 0 < z.2.2 / (Int.gcd z.2.1 z.2.2 : Int)
        have hb := ok2.num.pos
        have hg : (0 : Int) < Int.gcd z.2.1 z.2.2 := by exact_mod_cast Int.gcd_pos_of_ne_zero_right z.2.1 (by omega)
        exact Int.ediv_pos_of_pos_of_dvd hb (by omega) (Int.gcd_dvd_right _ _)
      have hfl2 : fk.length ≤ 100 := by omega
      walk_at "d"
      refine ds_st hN rfl (.inr rfl) rfl (.inl rfl) ?_
      refine de_c0 G2 hr (by decide) rfl (by decide) rfl rfl ?_
      walk_at "d"
      refine de_lock (i := 0) (p := fp) (ks := fk.map kR) (ds := fk.map fun ps => D.int (tot R ps)) rfl fun od uu => ?_
      refine de_lc2 (Oz := [(fp, .dNz od uu (fk.map kR) (fk.map fun ps => D.int (tot R ps)))]) (Oz1 := []) (own := [("key", 4), ("number", 8)]) (vs1 := [8]) rfl hN (blkOk_by (by kernel_rfl)) (by decide) (by intro _; rfl) (by intro _ _; rfl) (di_keysN ?_)
      repeat walk_at "d"
      refine ⟨rfl, List.mem_cons_self, ?_⟩
      rw [List.map_map]
      refine ⟨fun i acc O' => i ≤ fk.length ∧ acc = ((fk.take i).flatMap id).map pD ∧ O' = [(fp, .dNz od uu (fk.map kR) (fk.map fun ps => D.int (tot R ps)))], ⟨Nat.zero_le _, rfl, rfl⟩, fun i d acc O' hd ⟨hi, e1, e2⟩ => ?_, fun i acc O' ⟨_, _, e2⟩ q hq => by rw [e2]; exact hq, fun acc O' ⟨_, e1, e2⟩ => ?_⟩
      · subst e1 e2
        obtain ⟨ps, hps, rfl⟩ := map_get hd
        obtain ⟨hltp, _⟩ := List.getElem?_eq_some_iff.mp hps
        obtain ⟨hpl, hpd⟩ := hkey ps (List.mem_of_getElem? hps)
        have haccl : ((fk.take i).flatMap id).length ≤ 300 := by
          refine Nat.le_trans (flatMap_len (b := 3) fun q hq => ?_) ?_
          · have := (hkey q (List.mem_of_mem_take hq)).1
            show q.length ≤ 3
            omega
          · have : (fk.take i).length ≤ 100 := by rw [List.length_take]; omega
            omega
        have ek : kD (kR ps) = .tup (ps.map pD) := kD_R ps
        intro _ _ _ _ _
        show DG _ _ _ (kD (kR ps)) _ _ _
        rw [ek]
        repeat walk_at "d"
        intro _ _ _ _ _
        refine di_tup ?_
        repeat walk_at "d"
        refine ⟨_, rfl, fun j acc1 O5 => j ≤ ps.length ∧ acc1 = ((fk.take i).flatMap id).map pD ++ (ps.take j).map pD ∧ O5 = [(fp, .dNz od uu (fk.map kR) (fk.map fun ps => D.int (tot R ps)))], ⟨Nat.zero_le _, by simp, rfl⟩, fun j d1 acc1 O5 hd1 ⟨hj, e1, e2⟩ => ?_, fun _ _ _ _ q hq => (nomatch hq), fun acc1 O5 ⟨_, e1, e2⟩ => ⟨hltp, ?_, e2⟩⟩
        · subst e1 e2
          obtain ⟨p, hp, rfl⟩ := map_get hd1
          obtain ⟨hltj, _⟩ := List.getElem?_eq_some_iff.mp hp
          intro _ _ _ _ _
          repeat walk_at "d"
          intro _ _ _ _ _
          repeat walk_at "d"
          refine ⟨?_, hltj, ?_, rfl⟩
          · rw [List.length_append, List.length_map, List.length_map, List.length_take]
            exact Nat.lt_of_lt_of_le (show _ < 1000 by omega) (by decide)
          · rw [List.take_add_one, hp]
            simp
        · rw [e1, flatMap_take_succ hps, List.length_map, List.take_length, List.map_append]
          try rfl
      subst e1 e2
      rw [List.length_map, List.take_length]
      refine ⟨0, rfl, ?_⟩
      repeat walk_at "d"
      refine ⟨fk.flatMap id, sc, rfl, hs0, hs1, fun p hp => ?_, rfl, fun t ht0 ht1 htd => ?_⟩
      · obtain ⟨ps, h1, h2⟩ := List.mem_flatMap.mp hp
        exact (hkey ps h1).2 p h2
      have htb : t ≤ 1000 := Int.le_trans (Int.le_of_dvd hs0 ht1) hs1
      have hdv : ∀ ps ∈ fk, ∀ p ∈ ps, 0 < p.2 ∧ p.2 ≤ 1000 := fun ps h1 p h2 => ⟨((hkey ps h1).2 p h2).1, Int.le_trans (Int.le_of_dvd hs0 ((hkey ps h1).2 p h2).2) hs1⟩
      walk_at "d"
      refine ds_lock (i := 0) (p := fp) (ks := fk.map kR) (ds := fk.map fun ps => D.int (tot R ps)) rfl fun od uu => ?_
      refine ds_setLc (Oz := [(fp, .dNz od uu (fk.map kR) (fk.map fun ps => D.int (tot R ps)))]) (i := 6) (own := [("key", 4)]) rfl hN rfl rfl rfl (blkOk_by (by kernel_rfl)) (by decide) (by intro _; rfl) (di_keysN ?_)
      repeat walk_at "d"
      refine ⟨rfl, List.mem_cons_self, ?_⟩
      rw [List.map_map]
      refine lcd_filterZ fk (kD ∘ kR) (fun ps => kD (kR ps)) (fun ps => decide (tot R ps ≠ 0) && anyPos ps) (sz1000 (by omega)) (fun q hq => hq) (fun ps hps => ?_) ?_
      · intro _ _ _ _ _
        show DG _ _ _ (kD (kR ps)) _ _ _
        repeat walk_at "d"
        intro _ _ _ _ _
        refine dt_w (dw_and ?_)
        refine dt_cmpR op_ne (nomark _) ?_
        refine de_ixN hu9 (fun _ _ => rfl) ?_
        repeat walk_at "d"
        refine ⟨_, _, kR ps, .int (tot R ps), ⟨fp, rfl, 0, .inr ⟨od, uu, rfl⟩⟩, rfl, ⟨_, rfl⟩, kR_depth _, by rw [lkG kR_inj, if_pos hps], ?_⟩
        repeat walk_at "d"
        refine rd_neI ⟨_, rfl, ?_⟩
        by_cases ht : tot R ps = 0
        · refine iF (by simp [ht]) ⟨by simp [ht], ?_⟩
          rw [if_neg (by simp [ht])]
        · refine iT (by simp [ht]) ?_
          refine dw_and1 ?_
          walk_at "val"
          walk_at "any"
          walk_at "d"
          refine de_lc (Oz := []) (own := [("number", 8)]) rfl hN (blkOk_by (by kernel_rfl)) (by decide) (by intro _; rfl) (di_tup ?_)
          repeat walk_at "d"
          refine ⟨_, kD_R ps, lcd_map ps pD (fun p => .bl (decide (0 < p.1))) (sz1000 (by rw [(hkey ps hps).1]; omega)) rfl (fun p hp => ?_) ?_⟩
          · intro _ _ _ _ _
            unfold pD
            repeat walk_at "d"
            intro _ _ _ _ _
            refine de_cmpR op_gt (nomark _) ?_
            repeat walk_at "d"
            refine ⟨_, _, _, sqd_t, rfl, rfl, ?_⟩
            repeat walk_at "d"
            refine rd_B0 ⟨rfl, rfl⟩
          · repeat walk_at "d"
            have eb : ps.map (fun p => D.bl (decide (0 < p.1))) = (ps.map fun p => decide (0 < p.1)).map D.bl := by rw [List.map_map]; rfl
            have ea : (ps.map fun p => decide (0 < p.1)).any id = anyPos ps := by unfold anyPos; rw [List.any_map]; rfl
            rw [eb]
            refine rc_any ⟨_, rfl, ?_⟩
            rw [ea]
            refine ⟨by simp [ht], ?_⟩
            by_cases ha : anyPos ps = true
            · rw [if_pos (by simp [ht, ha])]
              intro _ _ _ _ _
              repeat walk_at "d"
              exact ⟨rfl, rfl⟩
            · rw [if_neg (by simp [ha])]
      refine ⟨0, rfl, ?_⟩
      generalize hkp : (fk.filter fun ps => decide (tot R ps ≠ 0) && anyPos ps) = kp
      have hkpm : ∀ ps, ps ∈ kp ↔ ps ∈ fk ∧ tot R ps ≠ 0 ∧ anyPos ps = true := fun ps => by
        rw [← hkp, List.mem_filter]
        simp
      have hkpn : kp.Nodup := by rw [← hkp]; exact hfn.filter _
      have hkpl : kp.length ≤ 100 := by rw [← hkp]; exact Nat.le_trans (List.length_filter_le _ _) hfl2
      repeat walk_at "d"
      refine de_callB (cr_sortA hu9) rfl B.sorted boot_sorted (by decide) (by decide) rfl rfl ?_
      walk_at "d"
      refine de_lc (Oz := []) (own := [("key", 4)]) rfl hN (blkOk_by (by kernel_rfl)) (by decide) (by intro _; rfl) (di_lst ?_)
      repeat walk_at "d"
      refine ⟨_, rfl, lcd_map kp (fun ps => kD (kR ps)) (itD t) (sz1000 (by omega)) rfl (fun ps hps => ?_) ?_⟩
      · have hpf := ((hkpm ps).mp hps).1
        have ek : kD (kR ps) = .tup (ps.map pD) := kD_R ps
        intro _ _ _ _ _
        rw [ek]
        repeat walk_at "d"
        intro _ _ _ _ _
        repeat walk_at "d"
        walk_at "tupof"
        walk_at "d"
        refine de_lc (Oz := []) (own := [("top", 9), ("bottom", 10)]) rfl hN (blkOk_by (by kernel_rfl)) (by decide) (by intro _; rfl) (di_tup ?_)
        repeat walk_at "d"
        refine ⟨_, rfl, lcd_map ps pD (fun p => .int (p.1 * (t / p.2))) (sz1000 (by rw [(hkey ps hpf).1]; omega)) rfl (fun p hp => ?_) ?_⟩
        · obtain ⟨g1, g2⟩ := hdv ps hpf p hp
          intro _ _ _ _ _
          unfold pD
          repeat walk_at "d"
          intro _ _ _ _ _
          refine de_op op_mul ?_
          repeat walk_at "d"
          refine de_op op_fdiv ?_
          repeat walk_at "d"
          refine rd_I ⟨g1, by omega⟩ ?_
          have q1 : 0 ≤ t / p.2 := Int.ediv_nonneg (by omega) (by omega)
          have q2 : t / p.2 ≤ t := Int.ediv_le_self _ (by omega)
          exact rd_I (.inr ⟨by omega, by omega⟩) ⟨rfl, rfl⟩
        · repeat walk_at "d"
          refine rc_tup sqd_l ?_
          repeat walk_at "d"
          exact ⟨sz rfl, rfl, rfl⟩
      repeat walk_at "d"
      refine rc_sortA (fun ps hps => ?_) (fun x y hx hy => ?_) (fun ps hps => ⟨_, _, rfl⟩) (fun ps hps => ?_) fun ys hys => ?_
      · show (plainDs _ && (plainDs _ && true)) = true
        rw [plainDs_map (fun _ _ => rfl), plainDs_map (fun _ _ => rfl)]
        rfl
      · rw [itD_py, itD_py]
        simp only [PySem.W.alike, PySem.W.alikeAll, PySem.W.alike_ints, alike_pairs, Bool.and_true]
      · rw [itD_py]
        simp only [PyData.depth, PyData.depthAll, PySem.W.depth_ints]
        have := depthAll_pairs ps
        omega
      have hysm : ∀ ps, ps ∈ ys ↔ ps ∈ fk ∧ tot R ps ≠ 0 ∧ anyPos ps = true := fun ps => by rw [hys.mem_iff, hkpm]
      have hysl : ys.length ≤ 100 := by rw [hys.length_eq]; exact hkpl
      repeat walk_at "d"
      refine de_drop ?_
      walk_at "tupof"
      walk_at "d"
      refine de_lc (Oz := []) (own := [("whole", 11), ("key", 4)]) rfl hN (blkOk_by (by kernel_rfl)) (by decide) (by intro _; rfl) (di_lst ?_)
      repeat walk_at "d"
      refine ⟨_, rfl, lcd_map ys (itD t) (fun ps => rowD (tot R ps, ps)) (sz1000 (by omega)) rfl (fun ps hps => ?_) ?_⟩
      · have hpf := ((hysm ps).mp hps).1
        intro _ _ _ _ _
        unfold itD
        repeat walk_at "d"
        intro _ _ _ _ _
        walk_at "d"
        walk_at "d"
        refine de_ixN hu9 (fun _ _ => rfl) ?_
        repeat walk_at "d"
        refine ⟨_, _, kR ps, .int (tot R ps), ⟨fp, rfl, 0, .inl rfl⟩, (kD_R ps).symm, ⟨_, rfl⟩, kR_depth _, by rw [lkG kR_inj, if_pos hpf], ?_⟩
        repeat walk_at "d"
        exact ⟨sz rfl, rfl, rfl⟩
      repeat walk_at "d"
      refine rc_tup sqd_l ⟨[], ⟨_, List.Perm.refl _, List.nil_sublist _⟩, ?_⟩
      have hfin := kk (ys.map fun ps => (tot R ps, ps)) ⟨?_, fun r => ?_⟩
      · rw [List.map_map] at hfin
        exact hfin
      · rw [List.map_map]
        have : ys.map ((fun r : Row => r.2) ∘ fun ps => (tot R ps, ps)) = ys := by simp [Function.comp_def]
        rw [this]
        exact hys.nodup_iff.mpr hkpn
      · constructor
        · intro h
          obtain ⟨ps, h1, rfl⟩ := List.mem_map.mp h
          obtain ⟨h2, h3, h4⟩ := (hysm ps).mp h1
          exact ⟨rfl, h3, h4⟩
        · rintro ⟨h1, h2, h3⟩
          refine List.mem_map.mpr ⟨r.2, (hysm _).mpr ⟨?_, by rw [← h1]; exact h2, h3⟩, ?_⟩
          · rw [hfm]
            apply Classical.byContradiction
            intro hno
            refine h2 ?_
            rw [h1]
            exact tot_none fun q hq e => hno ⟨q, hq, e⟩
          · rw [← h1]
end
end
section
/-! ### the classes -/
abbrev FnM (K : PySem.W.Frag) (x qual : Str) (st : Stmt) (f : Addr) (fd : FuncData) : Prop := FunD K x qual (defArgs st) (defBody st) (defScope st) [] [] f fd
/-- a list of bids -/
def bidsD (C : Addr) (k : Nat) (rs : List Row) : D := .ins C ["kinds", "rows"] [.int (k : Int), .tup (rs.map rowD)]
structure RedRow (k : Nat) (s : Int) (r : Row) : Prop where
  len : r.2.length = k
  ok : ∀ p ∈ r.2, 0 ≤ p.1 ∧ 0 < p.2 ∧ p.2 < 2 ^ 29 ∧ p.2 ∣ s ∧ Int.gcd p.1 p.2 = 1
def rowIn (r : Row) : RowIn := ⟨rowD r, r.1, .tup (r.2.map pD), r.2.map fun p => (pD p, p.1, p.2)⟩
theorem rowIn_ok {k : Nat} {s : Int} {r : Row} (h : RedRow k s r) : RowOk k s (rowIn r) := by
  refine ⟨.inr rfl, .inr ?_, by show (r.2.map _).length = k; rw [List.length_map, h.len], fun z hz => ?_⟩
  · show D.tup _ = D.tup ((r.2.map _).map _)
    rw [List.map_map]
    rfl
  · obtain ⟨p, hp, rfl⟩ := List.mem_map.mp (show z ∈ r.2.map fun p => (pD p, p.1, p.2) from hz)
    obtain ⟨h1, h2, h3, h4, h5⟩ := h.ok p hp
    refine ⟨.inr (.inl ⟨rfl, h2⟩), h1, h3, ?_⟩
    show p.2 / (Int.gcd p.1 p.2 : Int) ∣ s
    rw [h5]
    simpa using h4
theorem rowIn_red {k : Nat} {s : Int} {r : Row} (h : RedRow k s r) : redR (rowIn r) = r := by
  show (r.1, (r.2.map fun p => (pD p, p.1, p.2)).map redN) = r
  rw [List.map_map]
  have : r.2.map (redN ∘ fun p => (pD p, p.1, p.2)) = r.2.map id := by
    apply List.map_congr_left
    intro p hp
    show (p.1 / (Int.gcd p.1 p.2 : Int), p.2 / (Int.gcd p.1 p.2 : Int)) = p
    rw [(h.ok p hp).2.2.2.2]
    simp
  rw [this, List.map_id]
def fsInit (C : Addr) : FS := fun ds O post => ∃ (x : Addr) (k : Nat) (d : D) (rs : List RowIn) (s : Int), ds = [.raw (.ref x), .int (k : Int), d] ∧ (d = .lst (rs.map RowIn.d) ∨ d = .tup (rs.map RowIn.d)) ∧ 1 ≤ k ∧ k ≤ 3 ∧ 0 < s ∧ s ≤ 1000 ∧ rs.length ≤ 100 ∧ (∀ r ∈ rs, RowOk k s r) ∧ O = [(x, .ins C [] [])] ∧
  ∀ out, IsMerge (rs.map redR) out → post .non [(x, .ins C ["kinds", "rows"] [.int (k : Int), .tup (out.map rowD)])]
abbrev sInit : Stmt := mS 37 0
theorem scInit : FnScope ["self", "kinds", "rows", "row"] ["self", "kinds", "rows"] (defScope sInit) := ⟨rfl, rfl, rfl, by decide +kernel, rfl, by decide +kernel, by decide +kernel⟩
def fsAdd (C : Addr) : FS := fun ds O post => ∃ (k : Nat) (rs1 rs2 : List Row) (s : Int), ds = [bidsD C k rs1, bidsD C k rs2] ∧ 1 ≤ k ∧ k ≤ 3 ∧ 0 < s ∧ s ≤ 1000 ∧ rs1.length ≤ 50 ∧ rs2.length ≤ 50 ∧ (∀ r ∈ rs1, RedRow k s r) ∧ (∀ r ∈ rs2, RedRow k s r) ∧ O = [] ∧ ∀ out, IsMerge (rs1 ++ rs2) out → post (bidsD C k out) []
abbrev sAdd : Stmt := mS 37 2
theorem scAdd : FnScope ["self", "other"] ["self", "other"] (defScope sAdd) := ⟨rfl, rfl, rfl, by decide +kernel, rfl, by decide +kernel, by decide +kernel⟩
def fsNeg (C : Addr) : FS := fun ds O post => ∃ (k : Nat) (rs : List Row) (s : Int), ds = [bidsD C k rs] ∧ 1 ≤ k ∧ k ≤ 3 ∧ 0 < s ∧ s ≤ 1000 ∧ rs.length ≤ 50 ∧ (∀ r ∈ rs, RedRow k s r) ∧ O = [] ∧ ∀ out, IsMerge (rs.map fun r => (-r.1, r.2)) out → post (bidsD C k out) []
abbrev sNeg : Stmt := mS 37 3
theorem scNeg : FnScope ["self", "weight", "numbers"] ["self"] (defScope sNeg) := ⟨rfl, rfl, rfl, by decide +kernel, rfl, by decide +kernel, by decide +kernel⟩
def lessD (C : Addr) (ps : List D) (j : Int) : D := .ins C ["prices", "kind"] [.tup ps, .int j]
def fsLess (C : Addr) : FS := fun ds O post => ∃ (x : Addr) (ps : List D) (j : Int), ds = [.raw (.ref x), .tup ps, .int j] ∧ O = [(x, .ins C [] [])] ∧ post .non [(x, .ins C ["prices", "kind"] [.tup ps, .int j])]
abbrev sLess : Stmt := mS 17 0
theorem scLess : FnScope ["self", "prices", "kind"] ["self", "prices", "kind"] (defScope sLess) := ⟨rfl, rfl, rfl, by decide +kernel, rfl, by decide +kernel, by decide +kernel⟩
section
variable {P : Program} {w : World} {K : PySem.W.Frag} {mg : Str → Option Value} {base : Heap} {f : Addr} {fd : FuncData}
theorem ok_less {C : Addr} (F : FnM K "__init__" "Less.__init__" sLess f fd) (B : Bn mg) (hc : Cls K C) (n1 : NoAttr K C "prices") (n2 : NoAttr K C "kind") : FnOk P w K mg base CX0 1 f fd ["self", "prices", "kind"] (spD P w (fsLess C)) := by
  refine fokX F scLess (fun ds O post h => ?_) (fun cdv A outer s H E ds O post hr h => ?_)
  · obtain ⟨d, a, b, rfl, _⟩ := h; rfl
  · obtain ⟨x, ps, j, rfl, rfl, kk⟩ := h
    have hN := scLess.nd
    walk_at "d"
    refine ds_fld rfl ?_
    walk_at "tupof"
    repeat walk_at "d"
    refine rc_tup sqd_t ?_
    repeat walk_at "d"
    refine ⟨x, 0, C, [], [], rfl, rfl, hc, n1, by decide, by decide, ?_⟩
    walk_at "d"
    refine ds_fld rfl ?_
    repeat walk_at "d"
    refine ⟨x, 0, C, ["prices"], [.tup ps], rfl, rfl, hc, n2, by decide, by decide, ?_⟩
    repeat walk_at "d"
    exact kk
theorem ok_init {C : Addr} (F : FnM K "__init__" "Bids.__init__" sInit f fd) (B : Bn mg) (hc : Cls K C) (n1 : NoAttr K C "kinds") (n2 : NoAttr K C "rows") (G1 : Std P w K mg base 2 "need_kinds_bids" ["kinds"] fsNeedB) (G2 : Std P w K mg base 5 "is_bid" ["value", "kinds"] fsIsBid) (G3 : Std P w K mg base 4 "plain_rows" ["rows"] fsPlain) :
    FnOk P w K mg base CX0 6 f fd ["self", "kinds", "rows"] (spD P w (fsInit C)) := by
  refine fokX F scInit (fun ds O post h => ?_) (fun cdv A outer s H E ds O post hr h => ?_)
  · obtain ⟨d, a, b, c, e, rfl, _⟩ := h; rfl
  · obtain ⟨x, k, d, rs, sc, rfl, hd, hk1, hk3, hs0, hs1, hrl, hrs, rfl, kk⟩ := h
    have hN := scInit.nd
    walk_at "d"
    walk_at "expr"
    refine de_c0 G1 hr (by decide) rfl (by decide) rfl rfl ?_
    repeat walk_at "d"
    refine ⟨k, rfl, hk1, hk3, rfl, ?_⟩
    walk_at "d"
    refine ds_for .never rfl (by intro _; rfl) (ts := [3]) (di_sq hd ?_)
    repeat walk_at "d"
    refine ⟨rfl, fun i ρ O => i ≤ rs.length ∧ ∃ o, ρ = [some (.raw (.ref x)), some (.int (k : Int)), some d, o] ∧ O = [(x, .ins C [] [])], ⟨Nat.zero_le _, _, rfl, rfl⟩, fun i dd ρ O hdd ⟨hi, o, e1, e2⟩ => ?_, fun ρ O ⟨hi, o, e1, e2⟩ => ?_⟩
    · subst e1 e2
      obtain ⟨r, hri, rfl⟩ := map_get hdd
      obtain ⟨hlt, _⟩ := List.getElem?_eq_some_iff.mp hri
      repeat walk_at "d"
      walk_at "val"
      refine de_c0 G2 hr (by decide) rfl (by decide) rfl rfl ?_
      repeat walk_at "d"
      refine ⟨r, k, sc, rfl, hk3, hrs r (List.mem_of_getElem? hri), rfl, _, rfl, iF rfl ?_⟩
      repeat walk_at "d"
      exact ⟨hlt, _, rfl, rfl⟩
    · subst e1 e2
      walk_at "d"
      refine ds_fld rfl ?_
      repeat walk_at "d"
      refine ⟨x, 0, C, [], [], rfl, rfl, hc, n1, by decide, by decide, ?_⟩
      walk_at "d"
      refine ds_fld rfl ?_
      refine de_c0 G3 hr (by decide) rfl (by decide) rfl rfl ?_
      repeat walk_at "d"
      refine ⟨rs, k, sc, d, rfl, hd, hk1, hk3, hs0, hs1, hrl, hrs, rfl, fun out hout => ?_⟩
      repeat walk_at "d"
      refine ⟨x, 0, C, ["kinds"], [.int (k : Int)], rfl, rfl, hc, n2, by decide, by decide, ?_⟩
      repeat walk_at "d"
      exact kk out hout
theorem ok_add {C : Addr} (F : FnM K "__add__" "Bids.__add__" sAdd f fd) (hc : Cls K C) (n1 : NoAttr K C "kinds") (n2 : NoAttr K C "rows") (G : StdMk P w K mg base 6 "Bids" C ["self", "kinds", "rows"] (fsInit C)) :
    FnOk P w K mg base CX0 8 f fd ["self", "other"] (spD P w (fsAdd C)) := by
  refine fokX F scAdd (fun ds O post h => ?_) (fun cdv A outer s H E ds O post hr h => ?_)
  · obtain ⟨d, a, b, c, rfl, _⟩ := h; rfl
  · obtain ⟨k, rs1, rs2, sc, rfl, hk1, hk3, hs0, hs1, hl1, hl2, hr1, hr2, rfl, kk⟩ := h
    have hN := scAdd.nd
    repeat walk_at "d"
    refine dt_cmpR op_ne (nomark _) ?_
    refine de_fld rfl ?_
    repeat walk_at "d"
    refine ⟨C, _, _, _, .inl rfl, hc, n1, rfl, ?_⟩
    refine de_fld rfl ?_
    repeat walk_at "d"
    refine ⟨C, _, _, _, .inl rfl, hc, n1, rfl, ?_⟩
    refine rd_neI ⟨_, rfl, iF (by simp) ?_⟩
    repeat walk_at "d"
    refine de_fz (i := 0) ?_
    refine de_make G hr (by decide) rfl (by decide) rfl rfl ?_
    walk_at "d"
    refine de_fld rfl ?_
    repeat walk_at "d"
    refine ⟨C, _, _, _, .inl rfl, hc, n1, rfl, ?_⟩
    walk_at "d"
    refine de_op op_catA ?_
    refine de_fld rfl ?_
    repeat walk_at "d"
    refine ⟨C, _, _, _, .inl rfl, hc, n2, rfl, ?_⟩
    refine de_fld rfl ?_
    repeat walk_at "d"
    refine ⟨C, _, _, _, .inl rfl, hc, n2, rfl, ?_⟩
    refine rd_catT (sz1000 (by rw [List.length_map, List.length_map]; omega)) ?_
    repeat walk_at "d"
    intro q
    have hrr : ∀ r ∈ rs1 ++ rs2, RedRow k sc r := fun r h => (List.mem_append.mp h).elim (hr1 r) (hr2 r)
    have e1 : rs1.map rowD ++ rs2.map rowD = ((rs1 ++ rs2).map rowIn).map RowIn.d := by
      rw [← List.map_append, List.map_map]
      rfl
    have e2 : ((rs1 ++ rs2).map rowIn).map redR = rs1 ++ rs2 := by
      rw [List.map_map]
      have : (rs1 ++ rs2).map (redR ∘ rowIn) = (rs1 ++ rs2).map id := List.map_congr_left fun r h => rowIn_red (hrr r h)
      rw [this, List.map_id]
    refine ⟨q, k, _, (rs1 ++ rs2).map rowIn, sc, rfl, .inr (by rw [e1]), hk1, hk3, hs0, hs1, by rw [List.length_map, List.length_append]; omega, fun r h => ?_, rfl, fun out hout => ⟨rfl, q, _, rfl, rfl, rfl, ?_⟩⟩
    · obtain ⟨r0, h0, rfl⟩ := List.mem_map.mp h
      exact rowIn_ok (hrr r0 h0)
    · rw [e2] at hout
      exact kk out hout
theorem ok_neg {C : Addr} (F : FnM K "__neg__" "Bids.__neg__" sNeg f fd) (hc : Cls K C) (n1 : NoAttr K C "kinds") (n2 : NoAttr K C "rows") (G : StdMk P w K mg base 6 "Bids" C ["self", "kinds", "rows"] (fsInit C)) :
    FnOk P w K mg base CX0 8 f fd ["self"] (spD P w (fsNeg C)) := by
  refine fokX F scNeg (fun ds O post h => ?_) (fun cdv A outer s H E ds O post hr h => ?_)
  · obtain ⟨d, a, b, rfl, _⟩ := h; rfl
  · obtain ⟨k, rs, sc, rfl, hk1, hk3, hs0, hs1, hl1, hr1, rfl, kk⟩ := h
    have hN := scNeg.nd
    walk_at "d"
    walk_at "d"
    refine de_fz (i := 0) ?_
    refine de_make G hr (by decide) rfl (by decide) rfl rfl ?_
    walk_at "d"
    refine de_fld rfl ?_
    repeat walk_at "d"
    refine ⟨C, _, _, _, .inl rfl, hc, n1, rfl, ?_⟩
    walk_at "d"
    refine de_lc (Oz := []) (own := [("weight", 1), ("numbers", 2)]) rfl hN (blkOk_by (by kernel_rfl)) (by decide) (by intro _; rfl) (di_tup ?_)
    refine de_fld rfl ?_
    repeat walk_at "d"
    refine ⟨C, _, _, _, .inl rfl, hc, n2, rfl, ?_⟩
    refine ⟨_, rfl, lcd_map rs rowD (fun r => rowD (-r.1, r.2)) (sz1000 (by omega)) rfl (fun r hr => ?_) ?_⟩
    · intro _ _ _ _ _
      unfold rowD
      repeat walk_at "d"
      intro _ _ _ _ _
      repeat walk_at "d"
      refine ⟨_, rfl, ?_⟩
      repeat walk_at "d"
      exact ⟨sz rfl, rfl, rfl⟩
    repeat walk_at "d"
    intro q
    have hrr : ∀ r ∈ rs.map (fun r : Row => (-r.1, r.2)), RedRow k sc r := fun r h => by
      obtain ⟨r0, h0, rfl⟩ := List.mem_map.mp h
      exact ⟨(hr1 r0 h0).len, (hr1 r0 h0).ok⟩
    have e1 : rs.map (fun r => rowD (-r.1, r.2)) = ((rs.map fun r : Row => (-r.1, r.2)).map rowIn).map RowIn.d := by
      rw [List.map_map, List.map_map]
      rfl
    have e2 : ((rs.map fun r : Row => (-r.1, r.2)).map rowIn).map redR = rs.map fun r => (-r.1, r.2) := by
      rw [List.map_map (g := redR)]
      have : (rs.map fun r : Row => (-r.1, r.2)).map (redR ∘ rowIn) = (rs.map fun r : Row => (-r.1, r.2)).map id := List.map_congr_left fun r h => rowIn_red (hrr r h)
      rw [this, List.map_id]
    refine ⟨q, k, _, (rs.map fun r : Row => (-r.1, r.2)).map rowIn, sc, rfl, .inl (by rw [e1]), hk1, hk3, hs0, hs1, by rw [List.length_map, List.length_map]; omega, fun r h => ?_, rfl, fun out hout => ⟨rfl, q, _, rfl, rfl, rfl, ?_⟩⟩
    · obtain ⟨r0, h0, rfl⟩ := List.mem_map.mp h
      exact rowIn_ok (hrr r0 h0)
    · rw [e2] at hout
      exact kk out hout
end
end
section
/-! ### takes_no_less, two lists of as many kinds -/
def fsNeedL (C : Addr) : FS := fun ds O post => ∃ (k : Nat) (rs1 rs2 : List Row), ds = [bidsD C k rs1, bidsD C k rs2] ∧ O = [] ∧ post .non []
abbrev sNeedL : Stmt := topS 18
theorem scNeedL : FnScope ["one", "other"] ["one", "other"] (defScope sNeedL) := ⟨rfl, rfl, rfl, by decide +kernel, rfl, by decide +kernel, by decide +kernel⟩
theorem merge_key {R out : List Row} (h : IsMerge R out) {r : Row} (hr : r ∈ out) : ∃ q ∈ R, q.2 = r.2 := by
  obtain ⟨h1, h2, _⟩ := (h.mem r).mp hr
  apply Classical.byContradiction
  intro hno
  exact h2 (by rw [h1]; exact tot_none fun q hq e => hno ⟨q, hq, e⟩)
theorem merge_red {R out : List Row} (h : IsMerge R out) {k : Nat} {s : Int} (hR : ∀ r ∈ R, RedRow k s r) : ∀ r ∈ out, RedRow k s r := fun r hr => by
  obtain ⟨q, hq, e⟩ := merge_key h hr
  have := hR q hq
  exact ⟨by rw [← e]; exact this.len, by rw [← e]; exact this.ok⟩
theorem merge_len {R out : List Row} (h : IsMerge R out) : out.length ≤ R.length := by
  have := nodup_len (l := out.map (·.2)) (m := R.map (·.2)) h.nd fun ps hps => by
    obtain ⟨r, hr, rfl⟩ := List.mem_map.mp hps
    obtain ⟨q, hq, e⟩ := merge_key h hr
    exact List.mem_map.mpr ⟨q, hq, e⟩
  simpa using this
/-- the prices that are tried -/
def tryP (p st : List Int) : List Int := (p.zip st).map fun q => 8 * q.1 + q.2
/-- the units of the gap there -/
def gapU (k : Nat) (t : Int) (gap : List Row) (p st : List Int) : List Int := unitsF (bestP 8 (tryP p st)) k (gap.map (wholeR t))
structure TScale (s : Int) (rs : List Row) (t : Int) : Prop where
  pos : 0 < t
  dv : t ∣ s
  all : ∀ r ∈ rs, ∀ p ∈ r.2, p.2 ∣ t
def fsTakes (C CL : Addr) : FS := fun ds O post => ∃ (k : Nat) (rs1 rs2 : List Row) (s : Int), ds = [bidsD C k rs1, bidsD C k rs2] ∧ 1 ≤ k ∧ k ≤ 3 ∧ 0 < s ∧ s ≤ 1000 ∧ rs1.length + rs2.length ≤ 10 ∧ (∀ r ∈ rs1, RedRow k s r) ∧ (∀ r ∈ rs2, RedRow k s r) ∧ O = [] ∧
  ∀ t m1 gap, TScale s (rs1 ++ rs2) t → IsMerge (rs2.map fun r => (-r.1, r.2)) m1 → IsMerge (rs1 ++ m1) gap →
    ((∀ p st, IsCorner ((rs1 ++ rs2).map (wholeR t)) k p → st ∈ offsF k → (∀ x ∈ tryP p st, 0 < x) → ∀ u ∈ gapU k t gap p st, 0 ≤ u) → post .non []) ∧
    ∀ p st m, IsCorner ((rs1 ++ rs2).map (wholeR t)) k p → st ∈ offsF k → (∀ x ∈ tryP p st, 0 < x) → m ∈ gapU k t gap p st → (∀ u ∈ gapU k t gap p st, m ≤ u) → m < 0 →
      post (lessD CL ((tryP p st).map fun n => redD n (8 * t)) (((gapU k t gap p st).idxOf m : Nat) : Int)) []
abbrev sTakes : Stmt := topS 29
theorem scTakes : FnScope ["one", "other", "both", "scale", "rows", "gap", "steps", "corner", "row", "prices", "units", "price", "step"] ["one", "other"] (defScope sTakes) := ⟨rfl, rfl, rfl, by decide +kernel, rfl, by decide +kernel, by decide +kernel⟩
theorem corner_len {rows : List WRow} {k : Nat} {p : List Int} (h : IsCorner rows k p) : p.length = k := by
  obtain ⟨_, _, _, _, rfl⟩ := h
  simp [cornerP]
theorem offs_len {k : Nat} {st : List Int} (h : st ∈ offsF k) : st.length = k := by
  obtain ⟨o, _, rfl⟩ := List.mem_map.mp h
  simp [rngI]
section
variable {P : Program} {w : World} {K : PySem.W.Frag} {mg : Str → Option Value} {base : Heap} {f : Addr} {fd : FuncData}
theorem ok_need_l {C : Addr} (F : FnP K "need_kinds" sNeedL f fd) (hc : Cls K C) (n1 : NoAttr K C "kinds") : FnOk P w K mg base CX0 1 f fd ["one", "other"] (spD P w (fsNeedL C)) := by
  refine fokX F scNeedL (fun ds O post h => ?_) (fun cdv A outer s H E ds O post hr h => ?_)
  · obtain ⟨d, a, b, rfl, _⟩ := h; rfl
  · obtain ⟨k, rs1, rs2, rfl, rfl, kk⟩ := h
    have hN := scNeedL.nd
    repeat walk_at "d"
    refine dt_cmpR op_ne (nomark _) ?_
    refine de_fld rfl ?_
    repeat walk_at "d"
    refine ⟨C, _, _, _, .inl rfl, hc, n1, rfl, ?_⟩
    refine de_fld rfl ?_
    repeat walk_at "d"
    refine ⟨C, _, _, _, .inl rfl, hc, n1, rfl, ?_⟩
    refine rd_neI ⟨_, rfl, iF (by simp) ?_⟩
    repeat walk_at "d"
    exact kk
structure TakesG (P : Program) (w : World) (K : PySem.W.Frag) (mg : Str → Option Value) (base : Heap) (C CL : Addr) : Prop where
  need : Std P w K mg base 1 "need_kinds_likeness" ["one", "other"] (fsNeedL C)
  scale : Std P w K mg base 2 "scale_of" ["rows"] fsScale
  whole : Std P w K mg base 1 "whole_rows" ["rows", "scale"] fsWhole
  offs : Std P w K mg base 6 "offsets_of" ["kinds"] fsOffsets
  corn : Std P w K mg base 6 "corners_of" ["rows", "kinds"] fsCorners
  units : Std P w K mg base 1 "units_taken" ["rows", "prices", "by", "kinds"] fsUnits
  ptup : Std P w K mg base 4 "price_tuple" ["prices", "scale"] fsPriceTup
  less : StdMk P w K mg base 1 "Less" CL ["self", "prices", "kind"] (fsLess CL)
  add : StdM P w K mg base 8 C (PySem.dunder "add") ["self", "other"] (fsAdd C)
  neg : StdM P w K mg base 8 C "__neg__" ["self"] (fsNeg C)
  self : PySem.W.selfFirst K C = true
  cls : Cls K C
  n1 : NoAttr K C "kinds"
  n2 : NoAttr K C "rows"
  fine : ∃ t, mg "FINE" = some (.int 8 t)
theorem ok_takes {C CL : Addr} (F : FnP K "takes_no_less" sTakes f fd) (B : Bn mg) (G : TakesG P w K mg base C CL) : FnOk P w K mg base CX0 9 f fd ["one", "other"] (spD P w (fsTakes C CL)) := by
  refine fokX F scTakes (fun ds O post h => ?_) (fun cdv A outer s H E ds O post hr h => ?_)
  · obtain ⟨d, a, b, c, rfl, _⟩ := h; rfl
  · obtain ⟨k, rs1, rs2, sc, rfl, hk1, hk3, hs0, hs1, hl, hr1, hr2, rfl, kk⟩ := h
    have hN := scTakes.nd
    have hrr : ∀ r ∈ rs1 ++ rs2, RedRow k sc r := fun r h => (List.mem_append.mp h).elim (hr1 r) (hr2 r)
    walk_at "d"
    walk_at "expr"
    refine de_c0 G.need hr (by decide) rfl (by decide) rfl rfl ?_
    repeat walk_at "d"
    refine ⟨k, rs1, rs2, rfl, rfl, ?_⟩
    repeat walk_at "d"
    refine de_op op_catA ?_
    refine de_fld rfl ?_
    repeat walk_at "d"
    refine ⟨C, _, _, _, .inl rfl, G.cls, G.n2, rfl, ?_⟩
    refine de_fld rfl ?_
    repeat walk_at "d"
    refine ⟨C, _, _, _, .inl rfl, G.cls, G.n2, rfl, ?_⟩
    refine rd_catT (sz1000 (by rw [List.length_map, List.length_map]; omega)) ?_
    rw [← List.map_append]
    repeat walk_at "d"
    refine de_c0 G.scale hr (by decide) rfl (by decide) rfl rfl ?_
    repeat walk_at "d"
    refine ⟨rs1 ++ rs2, sc, rfl, hs0, hs1, fun r h p hp => ⟨((hrr r h).ok p hp).2.1, ((hrr r h).ok p hp).2.2.2.1⟩, rfl, fun t ht0 ht1 htd => ?_⟩
    have hT : TScale sc (rs1 ++ rs2) t := ⟨ht0, ht1, htd⟩
    have htb : t ≤ 1000 := Int.le_trans (Int.le_of_dvd hs0 ht1) hs1
    have hwh : ∀ rs : List Row, (∀ r ∈ rs, RedRow k sc r) → ∀ r ∈ rs, r.2.length ≤ 1000 ∧ ∀ p ∈ r.2, 0 < p.2 ∧ p.2 ≤ 1000 := fun rs h r hr => by
      refine ⟨by rw [(h r hr).len]; omega, fun p hp => ?_⟩
      obtain ⟨_, q2, _, q4, _⟩ := (h r hr).ok p hp
      exact ⟨q2, Int.le_trans (Int.le_of_dvd hs0 q4) hs1⟩
    walk_at "d"
    refine ds_par rfl hN (ixOf_at rfl) (ixOf_at rfl) (by decide) rfl rfl rfl rfl ?_
    walk_at "d"
    refine de_c0 G.whole hr (by decide) rfl (by decide) rfl rfl ?_
    repeat walk_at "d"
    refine ⟨rs1 ++ rs2, t, rfl, ht0, htb, by rw [List.length_append]; omega, hwh _ hrr, rfl, ?_⟩
    walk_at "d"
    refine de_c0 G.whole hr (by decide) rfl (by decide) rfl rfl ?_
    walk_at "d"
    refine de_fld rfl ?_
    refine de_addOwn G.add G.self hr (by decide) ?_
    walk_at "d"
    refine de_negOwn G.neg hr (by decide) ?_
    repeat walk_at "d"
    refine ⟨⟨_, _, rfl⟩, k, rs2, sc, rfl, hk1, hk3, hs0, hs1, by omega, hr2, rfl, fun m1 hm1 => ?_⟩
    have hneg : ∀ r ∈ rs2.map (fun r : Row => (-r.1, r.2)), RedRow k sc r := fun r h => by
      obtain ⟨r0, h0, rfl⟩ := List.mem_map.mp h
      exact ⟨(hr2 r0 h0).len, (hr2 r0 h0).ok⟩
    have hm1r := merge_red hm1 hneg
    have hm1l := merge_len hm1
    rw [List.length_map] at hm1l
    refine ⟨⟨_, _, rfl⟩, ⟨_, _, rfl⟩, k, rs1, m1, sc, rfl, hk1, hk3, hs0, hs1, by omega, by omega, hr1, hm1r, rfl, fun gap hgap => ?_⟩
    have hgr := merge_red hgap (fun r h => (List.mem_append.mp h).elim (hr1 r) (hm1r r))
    have hgl := merge_len hgap
    rw [List.length_append] at hgl
    obtain ⟨kn, kl⟩ := kk t m1 gap hT hm1 hgap
    refine ⟨C, _, _, _, .inl rfl, G.cls, G.n2, rfl, ?_⟩
    repeat walk_at "d"
    refine ⟨gap, t, rfl, ht0, htb, by omega, hwh _ hgr, rfl, ?_⟩
    repeat walk_at "d"
    refine ⟨_, _, rfl, ?_⟩
    repeat walk_at "d"
    refine de_c0 G.offs hr (by decide) rfl (by decide) rfl rfl ?_
    walk_at "d"
    refine de_fld rfl ?_
    repeat walk_at "d"
    refine ⟨C, _, _, _, .inl rfl, G.cls, G.n1, rfl, ?_⟩
    repeat walk_at "d"
    refine ⟨k, rfl, hk1, hk3, rfl, ?_⟩
    walk_at "d"
    refine ds_for .never rfl (by intro _; rfl) (ts := [7]) (di_lst ?_)
    refine de_c0 G.corn hr (by decide) rfl (by decide) rfl rfl ?_
    repeat walk_at "d"
    refine de_fld rfl ?_
    repeat walk_at "d"
    refine ⟨C, _, _, _, .inl rfl, G.cls, G.n1, rfl, ?_⟩
    repeat walk_at "d"
    have hRl : ((rs1 ++ rs2).map (wholeR t)).length ≤ 10 := by rw [List.length_map, List.length_append]; omega
    have hRk : ∀ rs : List Row, (∀ r ∈ rs, RedRow k sc r) → ∀ r ∈ rs.map (wholeR t), r.2.length = k := fun rs h r hr => by
      obtain ⟨r0, h0, rfl⟩ := List.mem_map.mp hr
      show (r0.2.map _).length = k
      rw [List.length_map, (h r0 h0).len]
    refine ⟨(rs1 ++ rs2).map (wholeR t), k, rfl, hk1, hk3, hRl, hRk _ hrr, rfl, fun L hL => ?_⟩
    refine ⟨_, rfl, fun i ρ O => i ≤ L.length ∧ ∃ o7 o8 o9 o10 o11 o12, ρ = [some (bidsD C k rs1), some (bidsD C k rs2), some (.tup ((rs1 ++ rs2).map rowD)), some (.int t), some (.lst (((rs1 ++ rs2).map (wholeR t)).map wrowD)), some (.lst ((gap.map (wholeR t)).map wrowD)), some (.lst ((offsF k).map liD)), o7, o8, o9, o10, o11, o12] ∧ O = [] ∧
      ∀ p ∈ L.take i, ∀ st ∈ offsF k, (∀ x ∈ tryP p st, 0 < x) → ∀ u ∈ gapU k t gap p st, 0 ≤ u, ⟨Nat.zero_le _, _, _, _, _, _, _, rfl, rfl, by simp⟩, fun i d ρ O hd ⟨hi, o7, o8, o9, o10, o11, o12, e1, e2, hno⟩ => ?_, fun ρ O ⟨hi, o7, o8, o9, o10, o11, o12, e1, e2, hno⟩ => ?_⟩
    · subst e1 e2
      obtain ⟨p, hp, rfl⟩ := map_get hd
      obtain ⟨hlt, _⟩ := List.getElem?_eq_some_iff.mp hp
      have hpc := (hL p).mp (List.mem_of_getElem? hp)
      have hpl := corner_len hpc
      repeat walk_at "d"
      refine ds_for .never rfl (by intro _; rfl) (ts := [8]) (di_lst ?_)
      repeat walk_at "d"
      refine ⟨_, rfl, fun j ρ O => j ≤ (offsF k).length ∧ ∃ o8 o9 o10 o11 o12, ρ = [some (bidsD C k rs1), some (bidsD C k rs2), some (.tup ((rs1 ++ rs2).map rowD)), some (.int t), some (.lst (((rs1 ++ rs2).map (wholeR t)).map wrowD)), some (.lst ((gap.map (wholeR t)).map wrowD)), some (.lst ((offsF k).map liD)), some (.tup (p.map D.int)), o8, o9, o10, o11, o12] ∧ O = [] ∧
        ∀ st ∈ (offsF k).take j, (∀ x ∈ tryP p st, 0 < x) → ∀ u ∈ gapU k t gap p st, 0 ≤ u, ⟨Nat.zero_le _, _, _, _, _, _, rfl, rfl, by simp⟩, fun j d ρ O hd ⟨hj, o8, o9, o10, o11, o12, e1, e2, hno2⟩ => ?_, fun ρ O ⟨hj, o8, o9, o10, o11, o12, e1, e2, hno2⟩ => ?_⟩
      · subst e1 e2
        obtain ⟨st, hst, rfl⟩ := map_get hd
        obtain ⟨hltj, _⟩ := List.getElem?_eq_some_iff.mp hst
        have hsm := List.mem_of_getElem? hst
        have hsl := offs_len hsm
        have next : ((∀ x ∈ tryP p st, 0 < x) → ∀ u ∈ gapU k t gap p st, 0 ≤ u) → ∀ st' ∈ (offsF k).take (j + 1), (∀ x ∈ tryP p st', 0 < x) → ∀ u ∈ gapU k t gap p st', 0 ≤ u := fun h st' hst' => by
          rw [List.take_add_one, hst] at hst'
          rcases List.mem_append.mp hst' with h1 | h1
          · exact hno2 st' h1
          · simp at h1; subst h1; exact h
        unfold liD
        repeat walk_at "d"
        refine ds_setLc (Oz := []) (i := 9) (own := [("price", 11), ("step", 12)]) rfl hN rfl rfl rfl (blkOk_by (by kernel_rfl)) (by decide) (by intro _; rfl) ?_
        refine di_zipM rfl B.zip rfl rfl ?_
        repeat walk_at "d"
        refine ⟨_, _, rfl, ?_⟩
        rw [pairD_ints]
        refine lcd_map (p.zip st) (fun q => .tup [.int q.1, .int q.2]) (fun q => .int (8 * q.1 + q.2)) (sz1000 (by simp; omega)) rfl (fun q hq => ?_) ?_
        · intro _ _ _ _ _
          repeat walk_at "d"
          intro _ _ _ _ _
          refine de_op op_add ?_
          refine de_op op_mul ?_
          refine de_globI rfl G.fine (by decide) ?_
          repeat walk_at "d"
          refine rd_I (.inl ⟨by decide, by decide⟩) ?_
          repeat walk_at "d"
          exact rd_I0 ⟨rfl, rfl⟩
        have etp : (p.zip st).map (fun q => D.int (8 * q.1 + q.2)) = (tryP p st).map D.int := by unfold tryP; rw [List.map_map]; rfl
        rw [etp]
        have htl : (tryP p st).length = k := by simp [tryP]; omega
        have hne : tryP p st ≠ [] := by intro e; rw [e] at htl; simp at htl; omega
        repeat walk_at "d"
        refine dt_cmpR op_gt (nomark _) ?_
        walk_at "min"
        repeat walk_at "d"
        refine rc_min sqd_l hne fun m hm1 hm2 => ?_
        repeat walk_at "d"
        refine rd_B0 ⟨_, rfl, ?_⟩
        by_cases hm0 : 0 < m
        · refine iT (by simp [hm0]) ?_
          have hpos : ∀ x ∈ tryP p st, 0 < x := fun x hx => by have := hm2 x hx; omega
          repeat walk_at "d"
          refine de_c0 G.units hr (by decide) rfl (by decide) rfl rfl ?_
          repeat walk_at "d"
          refine de_globI rfl G.fine (by decide) ?_
          walk_at "d"
          refine de_fld rfl ?_
          repeat walk_at "d"
          refine ⟨C, _, _, _, .inl rfl, G.cls, G.n1, rfl, ?_⟩
          repeat walk_at "d"
          refine ⟨gap.map (wholeR t), tryP p st, 8, k, rfl, hk1, hk3, htl, hRk _ hgr, by decide, by decide, rfl, ?_⟩
          have hU : liD (unitsF (bestP 8 (tryP p st)) k (gap.map (wholeR t))) = liD (gapU k t gap p st) := rfl
          rw [hU]
          have hul : (gapU k t gap p st).length = k := unitsF_length _ _ _
          have hune : gapU k t gap p st ≠ [] := by intro e; rw [e] at hul; simp at hul; omega
          unfold liD
          repeat walk_at "d"
          refine dt_cmpR op_lt (nomark _) ?_
          walk_at "min"
          repeat walk_at "d"
          refine rc_min sqd_l hune fun u hu1 hu2 => ?_
          repeat walk_at "d"
          refine rd_B0 ⟨_, rfl, ?_⟩
          by_cases hu0 : u < 0
          · refine iT (by simp [hu0]) ?_
            walk_at "d"
            walk_at "d"
            refine de_fz (i := 0) ?_
            refine de_make G.less hr (by decide) rfl (by decide) rfl rfl ?_
            walk_at "d"
            refine de_c0 G.ptup hr (by decide) rfl (by decide) rfl rfl ?_
            repeat walk_at "d"
            refine de_op op_mul ?_
            refine de_globI rfl G.fine (by decide) ?_
            repeat walk_at "d"
            refine rd_I (.inl ⟨by decide, by decide⟩) ?_
            repeat walk_at "d"
            refine ⟨tryP p st, 8 * t, rfl, by omega, by omega, by omega, rfl, ?_⟩
            walk_at "d"
            refine de_index rfl rfl rfl rfl rfl ?_
            repeat walk_at "d"
            refine ⟨⟨_, rfl⟩, ?_⟩
            walk_at "d"
            walk_at "min"
            repeat walk_at "d"
            refine rc_min sqd_l hune fun u' hu1' hu2' => ?_
            have eu : u' = u := by have := hu2 _ hu1'; have := hu2' _ hu1; omega
            subst eu
            repeat walk_at "d"
            obtain ⟨g1, g2⟩ := idx_get hu1
            refine ⟨_, u', _, rfl, rfl, g1, g2, ?_⟩
            repeat walk_at "d"
            intro q
            exact ⟨q, _, _, rfl, rfl, rfl, q, _, rfl, rfl, rfl, kl p st u' hpc hsm hpos hu1 hu2 hu0⟩
          · refine iF (by simp [hu0]) ?_
            repeat walk_at "d"
            refine ⟨hltj, _, _, _, _, _, rfl, rfl, next fun _ u'' hu'' => ?_⟩
            have := hu2 u'' hu''
            omega
        · refine iF (by simp [hm0]) ?_
          repeat walk_at "d"
          exact ⟨hltj, _, _, _, _, _, rfl, rfl, next fun h => absurd (h m hm1) hm0⟩
      · subst e1 e2
        rw [List.length_map, List.take_length] at hno2
        repeat walk_at "d"
        refine ⟨hlt, _, _, _, _, _, _, rfl, rfl, fun p' hp' => ?_⟩
        rw [List.take_add_one, hp] at hp'
        rcases List.mem_append.mp hp' with h1 | h1
        · exact hno p' h1
        · simp at h1; subst h1; exact hno2
    · subst e1 e2
      rw [List.length_map, List.take_length] at hno
      repeat walk_at "d"
      exact kn fun p st hp hst => hno p ((hL p).mpr hp) st hst
end
end
section
/-! ### the law's pen -/
def penKs : List Key := [.inr "cells", .inr "at", .inr "digits", .inr "count", .inr "fold"]
def penM (cells : List Int) (at_ digits count fold : Int) : MO := .dK penKs [liD cells, .int at_, .int digits, .int count, .int fold]
section
variable {a b c d e v : D}
theorem penL1 : kLk penKs [a, b, c, d, e] (.inr "cells") = some a := by kernel_rfl
theorem penL2 : kLk penKs [a, b, c, d, e] (.inr "at") = some b := by kernel_rfl
theorem penL3 : kLk penKs [a, b, c, d, e] (.inr "digits") = some c := by kernel_rfl
theorem penL4 : kLk penKs [a, b, c, d, e] (.inr "count") = some d := by kernel_rfl
theorem penL5 : kLk penKs [a, b, c, d, e] (.inr "fold") = some e := by kernel_rfl
theorem penP2 : MO.dK (kPutK penKs (.inr "at")) (kPutV penKs [a, b, c, d, e] (.inr "at") v) = .dK penKs [a, v, c, d, e] := by kernel_rfl
theorem penP3 : MO.dK (kPutK penKs (.inr "digits")) (kPutV penKs [a, b, c, d, e] (.inr "digits") v) = .dK penKs [a, b, v, d, e] := by kernel_rfl
theorem penP4 : MO.dK (kPutK penKs (.inr "count")) (kPutV penKs [a, b, c, d, e] (.inr "count") v) = .dK penKs [a, b, c, v, e] := by kernel_rfl
theorem penP5 : MO.dK (kPutK penKs (.inr "fold")) (kPutV penKs [a, b, c, d, e] (.inr "fold") v) = .dK penKs [a, b, c, d, v] := by kernel_rfl
end
/-- a pen from which b more draws may come -/
def PenOk (b : Nat) (m : MO) : Prop := ∃ cells at_ digits count fold, m = penM cells at_ digits count fold ∧ cells.length ≤ 1000 ∧ 0 ≤ at_ ∧ 0 ≤ digits ∧ 0 ≤ count ∧ count + b ≤ 1000000 ∧ 0 ≤ fold ∧ fold < 2 ^ 31
theorem PenOk.mono {b b' : Nat} {m : MO} (h : PenOk b m) (hb : b' ≤ b) : PenOk b' m := by
  obtain ⟨c, a, d, n, f, h1, h2, h3, h4, h5, h6, h7, h8⟩ := h
  exact ⟨c, a, d, n, f, h1, h2, h3, h4, h5, by omega, h7, h8⟩
/-- the script: a list of ints that is read only -/
def scrD (K : PySem.W.Frag) (ns : List Int) : D := .ext fun J v => ∃ a, v = .ref a ∧ SqL K J a (ns.map V.int)
theorem sqL_mono {K : PySem.W.Frag} {I H : Hp} {a : Addr} {xs : List V} (e : Ex I H) (h : SqL K I a xs) : SqL K H a xs := h.imp (fun r => r.imp (e _ _) fun ⟨o, z⟩ => ⟨o, e _ _ z⟩) id
theorem scr_at {K : PySem.W.Frag} {I : Hp} {v : V} {ns : List Int} (n : Den I (scrD K ns) v) : ∃ a, v = .ref a ∧ SqL K I a (ns.map V.int) := by
  obtain ⟨J, e, a, rfl, h⟩ := n
  exact ⟨a, rfl, sqL_mono e h⟩
theorem di_scr {X : Cx} {e : Expr} {ρ : Env'} {O Oz : Own} {tg : Expr} {k : List D → Own → Prop} (h : DE X e ρ O fun d O1 => ∃ ns, d = scrD X.K ns ∧ k (ns.map D.int) O1) : DI X tg e Oz ρ O k :=
  di_of (pi_list any_e) fun σ H R ⟨I, s, q⟩ => ⟨ρ, O, _, h, I, s, fun v J H1 d O1 g s1 n z => by
    obtain ⟨ns, rfl, z⟩ := z
    obtain ⟨a, rfl, ha⟩ := scr_at n
    refine ⟨a, rfl, ⟨_, sqL_mono s1.sub ha⟩, q _ J H1 (ns.map D.int) O1 g s1 ?_ z⟩
    intro I1 H2 O2 e1 e2 _ _
    have hx := sqL_mono e2 (sqL_mono e1 ha)
    refine ⟨fun i hi => ?_, ⟨_, hx, by simp⟩, fun i x H' d hd y => ?_⟩
    · rw [List.length_map] at hi
      exact ⟨_, (ns.map V.int)[i]'(by simpa using hi), hx, List.getElem?_eq_getElem (by simpa using hi)⟩
    · obtain ⟨rfl, y⟩ := y
      have h3 := y _ hx
      rw [List.getElem?_map] at h3 hd
      cases hn : ns[i]? with
      | none => rw [hn] at hd; cases hd
      | some m =>
        rw [hn] at hd h3
        cases hd
        cases h3
        exact ⟨I1, Grow.refl e2, rfl⟩⟩
theorem rc_scr {P : Program} {w : World} {K : PySem.W.Frag} {O : Own} {ns : List Int} {post : D → Own → Prop} (k : post (liD ns) O) : RC P w (rLstOf K) [scrD K ns] O post := by
  intro I H vs e ow n Q c
  obtain ⟨v, rfl, n1⟩ := den1 n
  obtain ⟨a, rfl, ha⟩ := scr_at n1
  refine ⟨a, _, rfl, .inl (sqL_mono e ha), fun p hp => ?_⟩
  obtain ⟨g, s⟩ := stt_imm (P := P) (w := w) (ρ := []) (σ := []) (o := .lst (ns.map V.int)) ⟨e, rfl, fun i d q => by simp at q, ow⟩ hp
  exact c (.ref p) _ _ (liD ns) O g s.own ⟨p, _, rfl, upd_same, DenL.of_ints ns⟩ k
def fsPen (K : PySem.W.Frag) : FS := fun ds O post => ∃ cells : List Int, ds = [scrD K cells] ∧ cells.length ≤ 1000 ∧ O = [] ∧ ∀ p m, PenOk 1000000 m → post (.raw (.ref p)) [(p, m)]
abbrev sPen : Stmt := topS 39
theorem scPen : FnScope ["_law_script", "_law_fold", "_law_cell"] ["_law_script"] (defScope sPen) := ⟨rfl, rfl, rfl, by decide +kernel, rfl, by decide +kernel, by decide +kernel⟩
def fsDraw : FS := fun ds O post => ∃ (p : Addr) (m : MO) (n : Int) (b : Nat), ds = [.raw (.ref p), .int n] ∧ 0 < n ∧ n ≤ 1000000 ∧ O = [(p, m)] ∧ PenOk (b + 1) m ∧ ∀ r m', 0 ≤ r → r < n → PenOk b m' → post (.int r) [(p, m')]
abbrev sDraw : Stmt := topS 40
theorem scDraw : FnScope ["_law_pen_here", "_law_many", "_law_cell", "_law_digit", "_law_mixed"] ["_law_pen_here", "_law_many"] (defScope sDraw) := ⟨rfl, rfl, rfl, by decide +kernel, rfl, by decide +kernel, by decide +kernel⟩
section
variable {P : Program} {w : World} {K : PySem.W.Frag} {mg : Str → Option Value} {base : Heap} {f : Addr} {fd : FuncData}
theorem ok_pen (F : FnP K "_law_pen" sPen f fd) (B : Bn mg) : FnOk P w K mg base CX0 1 f fd ["_law_script"] (spD P w (fsPen K)) := by
  refine fokX F scPen (fun ds O post h => ?_) (fun cdv A outer s H E ds O post hr h => ?_)
  · obtain ⟨a, rfl, _⟩ := h; rfl
  · obtain ⟨cells, rfl, hl, rfl, kk⟩ := h
    have hN := scPen.nd
    repeat walk_at "d"
    refine ds_for .never rfl (by intro _; rfl) (ts := [2]) (di_scr ?_)
    repeat walk_at "d"
    refine ⟨cells, rfl, fun i ρ O => i ≤ cells.length ∧ ∃ (fo : Int) (o : Option D), ρ = [some (scrD K cells), some (.int fo), o] ∧ O = [] ∧ 0 ≤ fo ∧ fo < 2 ^ 31, ⟨Nat.zero_le _, 0, _, rfl, rfl, by decide, by decide⟩, fun i d ρ O hd ⟨hi, fo, o, e1, e2, h1, h2⟩ => ?_, fun ρ O ⟨hi, fo, o, e1, e2, h1, h2⟩ => ?_⟩
    · subst e1 e2
      obtain ⟨c, hc, rfl⟩ := map_get hd
      obtain ⟨hlt, _⟩ := List.getElem?_eq_some_iff.mp hc
      repeat walk_at "d"
      refine de_op op_mod ?_
      walk_at "intof"
      walk_at "d"
      refine de_op op_add ?_
      refine de_op op_mul ?_
      repeat walk_at "d"
      refine rd_I (.inr ⟨by decide, by decide⟩) ?_
      repeat walk_at "d"
      refine rd_I0 ?_
      repeat walk_at "d"
      refine rc_int ?_
      repeat walk_at "d"
      refine rd_I (by decide) ?_
      repeat walk_at "d"
      have q1 := Int.emod_nonneg (fo * 43 + c) (show (1000000007 : Int) ≠ 0 by decide)
      have q2 := Int.emod_lt_of_pos (fo * 43 + c) (show (0 : Int) < 1000000007 by decide)
      exact ⟨hlt, _, _, rfl, rfl, q1, by omega⟩
    · subst e1 e2
      walk_at "d"
      walk_at "d"
      refine de_disp rfl rfl (by simp) (by decide) ?_
      refine de_str ?_
      walk_at "listof"
      repeat walk_at "d"
      refine rc_scr ?_
      refine de_str (de_int (de_str (de_int (de_str (de_int (de_str ?_))))))
      repeat walk_at "d"
      refine ⟨penKs, rfl, by decide, rfl, Nat.le_of_ble_eq_true rfl, fun p => kk p _ ⟨cells, 0, 0, 0, fo, rfl, hl, by decide, by decide, by decide, by decide, h1, h2⟩⟩
theorem ok_draw (F : FnP K "_law_draw" sDraw f fd) (B : Bn mg) : FnOk P w K mg base CX0 1 f fd ["_law_pen_here", "_law_many"] (spD P w fsDraw) := by
  refine fokX F scDraw (fun ds O post h => ?_) (fun cdv A outer s H E ds O post hr h => ?_)
  · obtain ⟨a, b, c, d, rfl, _⟩ := h; rfl
  · obtain ⟨p, m, n, b, rfl, hn, hn2, rfl, ⟨cells, at_, dg, cnt, fo, rfl, hcl, ha, hd, hc, hb, hf0, hf1⟩, kk⟩ := h
    have hN := scDraw.nd
    have hu1 := room1 hr
    unfold penM
    walk_at "e"
    refine ds_asg (ts := []) ?_ rfl rfl rfl
    refine de_op op_add ?_
    refine de_ixK hu1 (fun _ _ => rfl) ?_
    repeat walk_at "e"
    refine ⟨penKs, _, .inr "count", _, dkd_own (i := 0) rfl, rfl, penL4, ?_⟩
    repeat walk_at "e"
    refine rd_I0 ?_
    refine dg_sub (set_dk hu1) (by intro _; rfl) ?_
    repeat walk_at "e"
    refine std_dk (k := .inr "count") (j := 0) rfl rfl (by decide) ?_
    rw [penP4]
    have last : ∀ (at_ dg fo : Int), 0 ≤ at_ → 0 ≤ dg → 0 ≤ fo → fo < 2 ^ 31 → ∀ ρ1 ρ2 ρ3 : Option D, DSs (cxOf CX0 P w K mg base ["_law_pen_here", "_law_many", "_law_cell", "_law_digit", "_law_mixed"] "_law_draw" (defScope sDraw) f cdv A outer s H E).nox ((defBody sDraw).drop 2) [some (.raw (.ref p)), some (.int n), ρ1, ρ2, ρ3] [(p, .dK penKs [liD cells, .int at_, .int dg, .int (cnt + 1), .int fo])] (endP post) := by
      clear ha hd hf0 hf1
      intro at_ dg fo ha hd hf0 hf1 ρ1 ρ2 ρ3
      refine dss_cons (sts := (defBody sDraw).drop 3) ?_
      refine ds_if ?_
      refine dt_cmpR op_gt (nomark _) ?_
      refine de_ixK hu1 (fun _ _ => rfl) ?_
      repeat walk_at "e"
      refine ⟨penKs, _, .inr "digits", _, dkd_own (i := 0) rfl, rfl, penL3, ?_⟩
      repeat walk_at "e"
      refine rd_B0 ⟨_, rfl, ?_⟩
      by_cases h0 : 0 < dg
      · refine iT (by simp [h0]) ?_
        walk_at "e"
        walk_at "e"
        refine de_op op_mod ?_
        walk_at "intof"
        walk_at "e"
        refine de_ixK hu1 (fun _ _ => rfl) ?_
        repeat walk_at "e"
        refine ⟨penKs, _, .inr "digits", _, dkd_own (i := 0) rfl, rfl, penL3, ?_⟩
        repeat walk_at "e"
        refine rc_int ?_
        repeat walk_at "e"
        refine rd_I hn ?_
        walk_at "e"
        refine ds_asg (ts := []) ?_ rfl rfl rfl
        refine de_op op_fdiv ?_
        refine de_ixK hu1 (fun _ _ => rfl) ?_
        repeat walk_at "e"
        refine ⟨penKs, _, .inr "digits", _, dkd_own (i := 0) rfl, rfl, penL3, ?_⟩
        repeat walk_at "e"
        refine rd_I ⟨hn, by omega⟩ ?_
        refine dg_sub (set_dk hu1) (by intro _; rfl) ?_
        repeat walk_at "e"
        refine std_dk (k := .inr "digits") (j := 0) rfl rfl (by decide) ?_
        rw [penP3]
        repeat walk_at "e"
        have q1 := Int.emod_nonneg dg (show n ≠ 0 by omega)
        have q2 := Int.emod_lt_of_pos dg hn
        exact kk _ _ q1 q2 ⟨cells, at_, dg / n, cnt + 1, fo, rfl, hcl, ha, Int.ediv_nonneg hd (by omega), by omega, by omega, hf0, hf1⟩
      · refine iF (by simp [h0]) ?_
        repeat walk_at "e"
        refine de_op op_add ?_
        refine de_op op_add ?_
        refine de_ixK hu1 (fun _ _ => rfl) ?_
        repeat walk_at "e"
        refine ⟨penKs, _, .inr "fold", _, dkd_own (i := 0) rfl, rfl, penL5, ?_⟩
        refine de_op op_mul ?_
        refine de_ixK hu1 (fun _ _ => rfl) ?_
        repeat walk_at "e"
        refine ⟨penKs, _, .inr "count", _, dkd_own (i := 0) rfl, rfl, penL4, ?_⟩
        repeat walk_at "e"
        refine rd_I (.inr ⟨by decide, by decide⟩) (rd_I0 ?_)
        repeat walk_at "e"
        refine rd_I0 ?_
        walk_at "e"
        walk_at "e"
        refine de_op op_mod ?_
        refine de_op op_fdiv ?_
        walk_at "intof"
        walk_at "e"
        refine de_op op_mod ?_
        refine de_op op_pow ?_
        repeat walk_at "e"
        refine rd_I ⟨by decide, by decide, by omega⟩ ?_
        repeat walk_at "e"
        refine rd_I (by decide) ?_
        repeat walk_at "e"
        refine rc_int ?_
        repeat walk_at "e"
        refine rd_I ⟨by decide, by decide⟩ ?_
        repeat walk_at "e"
        refine rd_I hn ?_
        exact kk _ _ (Int.emod_nonneg _ (by omega)) (Int.emod_lt_of_pos _ hn) ⟨cells, at_, dg, cnt + 1, fo, rfl, hcl, ha, hd, by omega, by omega, hf0, hf1⟩
    walk_at "e"
    walk_at "e"
    refine dt_w (dw_and ?_)
    refine dt_cmpR op_eq (nomark _) ?_
    refine de_ixK hu1 (fun _ _ => rfl) ?_
    repeat walk_at "e"
    refine ⟨penKs, _, .inr "digits", _, dkd_own (i := 0) rfl, rfl, penL3, ?_⟩
    repeat walk_at "e"
    refine rd_eqI ⟨_, rfl, ?_⟩
    by_cases h0 : dg = 0
    · refine iT (by simp [h0]) ?_
      refine dw_and1 ?_
      refine dt_cmpR op_lt (nomark _) ?_
      refine de_ixK hu1 (fun _ _ => rfl) ?_
      repeat walk_at "e"
      refine ⟨penKs, _, .inr "at", _, dkd_own (i := 0) rfl, rfl, penL2, ?_⟩
      walk_at "len"
      walk_at "e"
      refine de_ixK hu1 (fun _ _ => rfl) ?_
      repeat walk_at "e"
      refine ⟨penKs, _, .inr "cells", _, dkd_own (i := 0) rfl, rfl, penL1, ?_⟩
      repeat walk_at "e"
      refine rc_len (ds := cells.map D.int) sqd_l ?_
      refine rd_B0 ⟨_, rfl, ?_⟩
      rw [List.length_map]
      by_cases h1 : at_ < (cells.length : Int)
      · refine iT (by simp [h1]) ?_
        obtain ⟨an, rfl⟩ := Int.eq_ofNat_of_zero_le ha
        obtain ⟨c, hcell⟩ : ∃ c, cells[an]? = some c := ⟨_, List.getElem?_eq_getElem (by omega)⟩
        repeat walk_at "e"
        refine de_ix (fun _ _ => rfl) ?_
        refine de_ixK hu1 (fun _ _ => rfl) ?_
        repeat walk_at "e"
        refine ⟨penKs, _, .inr "cells", _, dkd_own (i := 0) rfl, rfl, penL1, ?_⟩
        refine de_ixK hu1 (fun _ _ => rfl) ?_
        repeat walk_at "e"
        refine ⟨penKs, _, .inr "at", _, dkd_own (i := 0) rfl, rfl, penL2, ?_⟩
        refine ⟨cells.map D.int, _, _, sqd_l, rfl, atI_nat (map_at hcell), ?_⟩
        walk_at "e"
        refine ds_asg (ts := []) ?_ rfl rfl rfl
        refine de_op op_add ?_
        refine de_ixK hu1 (fun _ _ => rfl) ?_
        repeat walk_at "e"
        refine ⟨penKs, _, .inr "at", _, dkd_own (i := 0) rfl, rfl, penL2, ?_⟩
        repeat walk_at "e"
        refine rd_I0 ?_
        refine dg_sub (set_dk hu1) (by intro _; rfl) ?_
        repeat walk_at "e"
        refine std_dk (k := .inr "at") (j := 0) rfl rfl (by decide) ?_
        rw [penP2]
        repeat walk_at "e"
        refine dt_cmpR op_ge (nomark _) ?_
        repeat walk_at "e"
        refine de_op op_pow ?_
        repeat walk_at "e"
        refine rd_I ⟨by decide, by decide, by decide⟩ ?_
        refine rd_B0 ⟨_, rfl, ?_⟩
        by_cases h2 : (10 : Int) ^ (18 : Int).toNat ≤ c
        · refine iT (decide_eq_true h2) ?_
          walk_at "e"
          refine ds_asg (ts := []) ?_ rfl rfl rfl
          refine de_op op_sub ?_
          repeat walk_at "e"
          refine de_op op_pow ?_
          repeat walk_at "e"
          refine rd_I ⟨by decide, by decide, by decide⟩ ?_
          refine rd_I0 ?_
          refine dg_sub (set_dk hu1) (by intro _; rfl) ?_
          repeat walk_at "e"
          refine std_dk (k := .inr "digits") (j := 0) rfl rfl (by decide) ?_
          rw [penP3]
          walk_at "e"
          exact dss_nil (last _ _ _ (by omega) (by omega) hf0 hf1 _ _ _)
        · refine iF (decide_eq_false h2) ?_
          walk_at "e"
          refine ds_asg (ts := []) ?_ rfl rfl rfl
          refine de_op op_mod ?_
          walk_at "intof"
          walk_at "e"
          refine de_op op_add ?_
          refine de_op op_mul ?_
          refine de_ixK hu1 (fun _ _ => rfl) ?_
          repeat walk_at "e"
          refine ⟨penKs, _, .inr "fold", _, dkd_own (i := 0) rfl, rfl, penL5, ?_⟩
          repeat walk_at "e"
          refine rd_I (.inr ⟨by decide, by decide⟩) ?_
          repeat walk_at "e"
          refine rd_I0 ?_
          repeat walk_at "e"
          refine rc_int ?_
          repeat walk_at "e"
          refine rd_I (by decide) ?_
          refine dg_sub (set_dk hu1) (by intro _; rfl) ?_
          repeat walk_at "e"
          refine std_dk (k := .inr "fold") (j := 0) rfl rfl (by decide) ?_
          rw [penP5]
          walk_at "e"
          have q1 := Int.emod_nonneg (fo * 69069 + c) (show (2147483587 : Int) ≠ 0 by decide)
          have q2 := Int.emod_lt_of_pos (fo * 69069 + c) (show (0 : Int) < 2147483587 by decide)
          exact dss_nil (last _ _ _ (by omega) hd q1 (by omega) _ _ _)
      · refine iF (by simp [h1]) ?_
        walk_at "e"
        exact last _ _ _ ha hd hf0 hf1 _ _ _
    · refine iF (by simp [h0]) ?_
      refine iF rfl ?_
      walk_at "e"
      exact last _ _ _ ha hd hf0 hf1 _ _ _
end
end
section
/-! ### pick, ratios -/
def fsPick : FS := fun ds O post => ∃ (p : Addr) (m : MO) (d : D) (xs : List D) (b : Nat), ds = [.raw (.ref p), d] ∧ (d = .lst xs ∨ d = .tup xs) ∧ 0 < xs.length ∧ xs.length ≤ 1000 ∧ O = [(p, m)] ∧ PenOk (b + 1) m ∧ ∀ x m', x ∈ xs → PenOk b m' → post x [(p, m')]
abbrev sPick : Stmt := topS 41
theorem scPick : FnScope ["_law_pen_here", "_law_some"] ["_law_pen_here", "_law_some"] (defScope sPick) := ⟨rfl, rfl, rfl, by decide +kernel, rfl, by decide +kernel, by decide +kernel⟩
abbrev sIsWholeL : Stmt := topS 42
theorem scIsWholeL : FnScope ["_law_value"] ["_law_value"] (defScope sIsWholeL) := ⟨rfl, rfl, rfl, by decide +kernel, rfl, by decide +kernel, by decide +kernel⟩
def fsGcd : FS := fun ds O post => ∃ a b : Int, ds = [.int a, .int b] ∧ 0 < b ∧ b ≤ 1999 ∧ O = [] ∧ post (.int (Int.gcd a b)) []
abbrev sGcd : Stmt := topS 43
theorem scGcd : FnScope ["_law_one", "_law_two_here", "_law_lap"] ["_law_one", "_law_two_here"] (defScope sGcd) := ⟨rfl, rfl, rfl, by decide +kernel, rfl, by decide +kernel, by decide +kernel⟩
def fsQ : FS := fun ds O post => ∃ a b : Int, ds = [.int a, .int b] ∧ 0 < b ∧ b ≤ 1999 ∧ O = [] ∧ post (redD a b) []
abbrev sQ : Stmt := topS 44
theorem scQ : FnScope ["_law_top", "_law_bottom", "_law_by"] ["_law_top", "_law_bottom"] (defScope sQ) := ⟨rfl, rfl, rfl, by decide +kernel, rfl, by decide +kernel, by decide +kernel⟩
def fsMinus : FS := fun ds O post => ∃ p q : Int × Int, ds = [pD p, pD q] ∧ 0 < p.2 ∧ 0 < q.2 ∧ p.2 * q.2 ≤ 1999 ∧ p.2 ≤ 1999 ∧ q.2 ≤ 1999 ∧ O = [] ∧ post (redD (p.1 * q.2 - q.1 * p.2) (p.2 * q.2)) []
abbrev sMinus : Stmt := topS 45
theorem scMinus : FnScope ["_law_one", "_law_two_here"] ["_law_one", "_law_two_here"] (defScope sMinus) := ⟨rfl, rfl, rfl, by decide +kernel, rfl, by decide +kernel, by decide +kernel⟩
def fsLt : FS := fun ds O post => ∃ p q : Int × Int, ds = [pD p, pD q] ∧ 0 < p.2 ∧ 0 < q.2 ∧ p.2 ≤ 1999 ∧ q.2 ≤ 1999 ∧ O = [] ∧ post (.bl (decide (p.1 * q.2 < q.1 * p.2))) []
abbrev sLt : Stmt := topS 46
theorem scLt : FnScope ["_law_one", "_law_two_here"] ["_law_one", "_law_two_here"] (defScope sLt) := ⟨rfl, rfl, rfl, by decide +kernel, rfl, by decide +kernel, by decide +kernel⟩
/-- a ratio in lowest terms -/
def Low (p : Int × Int) : Prop := 0 < p.2 ∧ p.2 ≤ 1999 ∧ Int.gcd p.1 p.2 = 1
def fsIsRatL : FS := fun ds O post => ∃ p : Int × Int, ds = [pD p] ∧ Low p ∧ O = [] ∧ post (.bl true) []
abbrev sIsRatL : Stmt := topS 47
theorem scIsRatL : FnScope ["_law_value"] ["_law_value"] (defScope sIsRatL) := ⟨rfl, rfl, rfl, by decide +kernel, rfl, by decide +kernel, by decide +kernel⟩
def fsAreRat : FS := fun ds O post => ∃ ps : List (Int × Int), ds = [.tup (ps.map pD), .int (ps.length : Int)] ∧ ps.length ≤ 1000 ∧ (∀ p ∈ ps, Low p) ∧ O = [] ∧ post (.bl true) []
abbrev sAreRat : Stmt := topS 48
theorem scAreRat : FnScope ["_law_value", "_law_many", "_law_one"] ["_law_value", "_law_many"] (defScope sAreRat) := ⟨rfl, rfl, rfl, by decide +kernel, rfl, by decide +kernel, by decide +kernel⟩
def fsPassed : FS := fun ds O post => ∃ (p : Addr) (m : MO) (q : Int × Int) (s : Int) (b : Nat), ds = [.raw (.ref p), pD q] ∧ 0 ≤ q.1 ∧ q.1 ≤ 1000 ∧ 0 < q.2 ∧ q.2 ≤ 1000 ∧ Int.gcd q.1 q.2 = 1 ∧ q.2 ∣ s ∧ O = [(p, m)] ∧ PenOk (b + 3) m ∧ ∀ z m', NumOk s z → redN z = q → PenOk b m' → post z.1 [(p, m')]
abbrev sPassed : Stmt := topS 49
theorem scPassed : FnScope ["_law_pen_here", "_law_ratio", "_law_by"] ["_law_pen_here", "_law_ratio"] (defScope sPassed) := ⟨rfl, rfl, rfl, by decide +kernel, rfl, by decide +kernel, by decide +kernel⟩
theorem room64 {k : Nat} {A : Around} (hr : Room k A) : A.units + 64 < cLine := Nat.lt_of_le_of_lt (by omega) hr.un
section
variable {P : Program} {w : World} {K : PySem.W.Frag} {mg : Str → Option Value} {base : Heap} {f : Addr} {fd : FuncData}
theorem ok_pick (F : FnP K "_law_pick" sPick f fd) (B : Bn mg) (G : Std P w K mg base 1 "_law_draw" ["_law_pen_here", "_law_many"] fsDraw) : FnOk P w K mg base CX0 2 f fd ["_law_pen_here", "_law_some"] (spD P w fsPick) := by
  refine fokX F scPick (fun ds O post h => ?_) (fun cdv A outer s H E ds O post hr h => ?_)
  · obtain ⟨a, b, c, d, e, rfl, _⟩ := h; rfl
  · obtain ⟨p, m, d, xs, b, rfl, hd, h0, h1, rfl, hp, kk⟩ := h
    have hN := scPick.nd
    walk_at "e"
    walk_at "e"
    refine de_ix (fun _ _ => rfl) ?_
    walk_at "e"
    refine de_cO G hr (by decide) rfl (by decide) rfl rfl ?_
    repeat walk_at "e"
    walk_at "len"
    repeat walk_at "e"
    refine rc_len (sqd_of hd) ?_
    repeat walk_at "e"
    refine ⟨[(p, m)], [], List.Perm.refl _, p, m, _, b, rfl, by omega, by omega, rfl, hp, fun r m' r0 r1 hp' => ?_⟩
    obtain ⟨rn, rfl⟩ := Int.eq_ofNat_of_zero_le r0
    obtain ⟨x, hx⟩ : ∃ x, xs[rn]? = some x := ⟨_, List.getElem?_eq_getElem (by omega)⟩
    exact ⟨xs, _, x, sqd_of hd, rfl, atI_nat hx, kk x m' (List.mem_of_getElem? hx) hp'⟩
theorem ok_is_wholeL (F : FnP K "_law_is_whole" sIsWholeL f fd) (B : Bn mg) : FnOk P w K mg base CX0 1 f fd ["_law_value"] (spD P w fsIsWhole) := by
  refine fokX F scIsWholeL (fun ds O post h => ?_) (fun cdv A outer s H E ds O post hr h => ?_)
  · obtain ⟨d, T, b1, b2, rfl, _⟩ := h; rfl
  · obtain ⟨d, T, b1, b2, rfl, ht, k1, k2, rfl, k⟩ := h
    have hN := scIsWholeL.nd
    repeat walk_at "d"
    walk_at "isi"
    repeat walk_at "d"
    walk_at "int"
    walk_at "d"
    refine rc_isi ht k1 ⟨_, rfl, ?_⟩
    cases b1 with
    | false =>
      rw [if_neg (by simp)]
      exact k
    | true =>
      rw [if_pos rfl]
      repeat walk_at "d"
      walk_at "isi"
      repeat walk_at "d"
      walk_at "bool"
      walk_at "d"
      refine rc_isi ht k2 ⟨_, rfl, ?_⟩
      exact k
theorem ok_gcd (F : FnP K "_law_gcd" sGcd f fd) (B : Bn mg) : FnOk P w K mg base CX0 1 f fd ["_law_one", "_law_two_here"] (spD P w fsGcd) := by
  refine fokX F scGcd (fun ds O post h => ?_) (fun cdv A outer s H E ds O post hr h => ?_)
  · obtain ⟨a, b, rfl, _⟩ := h; rfl
  · obtain ⟨a, b, rfl, hb, hb2, rfl, k⟩ := h
    have hN := scGcd.nd
    walk_at "e"
    refine ds_par rfl hN (ixOf_at rfl) (ixOf_at rfl) (by decide) rfl rfl rfl rfl ?_
    walk_at "e"
    walk_at "abs"
    repeat walk_at "e"
    refine rc_abs ?_
    walk_at "e"
    walk_at "abs"
    repeat walk_at "e"
    refine rc_abs ?_
    repeat walk_at "e"
    refine ⟨_, _, rfl, ?_⟩
    walk_at "e"
    have fin : ∀ (x y : Int) (o : Option D), 0 ≤ x → y = 0 → Int.gcd x y = Int.gcd a b → DSs (cxOf CX0 P w K mg base ["_law_one", "_law_two_here", "_law_lap"] "_law_gcd" (defScope sGcd) f cdv A outer s H E).nox ((defBody sGcd).drop 2) [some (.int x), some (.int y), o] [] (endP post) := by
      intro x y o hx hy hg
      refine dss_cons (sts := (defBody sGcd).drop 3) ?_
      walk_at "e"
      refine de_v rfl (.inl rfl) (by decide) (by decide) rfl ?_
      have e : x = (Int.gcd a b : Int) := by
        rw [← hg, hy, Int.gcd_zero_right]
        omega
      show post (.int x) []
      rw [e]
      exact k
    refine ds_for .never rfl (by intro _; rfl) (ts := [2]) ?_
    walk_at "rng1"
    repeat walk_at "e"
    refine ⟨_, rfl, by decide, by decide, ?_⟩
    refine ⟨fun i ρ O => i ≤ 2000 ∧ ∃ (x y : Int) (o : Option D), ρ = [some (.int x), some (.int y), o] ∧ O = [] ∧ 0 ≤ x ∧ 0 ≤ y ∧ Int.gcd x y = Int.gcd a b ∧ (y = 0 ∨ y + i ≤ b), ⟨Nat.zero_le _, _, _, _, rfl, rfl, by split <;> omega, by split <;> omega, ?_, ?_⟩, fun i d ρ O hd ⟨hi, x, y, o, e1, e2, h1, h2, h3, h4⟩ => ?_, fun ρ O ⟨hi, x, y, o, e1, e2, h1, h2, h3, h4⟩ => ?_⟩
    · have q1 : Int.gcd (if a < 0 then -a else a) (if b < 0 then -b else b) = Int.gcd a b := by
        rw [if_neg (by omega : ¬ b < 0)]
        split
        · exact Int.neg_gcd
        · rfl
      exact q1
    · rw [if_neg (by omega : ¬ b < 0)]
      right; omega
    · subst e1 e2
      obtain ⟨hlt, rfl⟩ := rngD_get hd
      repeat walk_at "e"
      refine dt_cmpR op_eq (nomark _) ?_
      repeat walk_at "e"
      refine rd_eqI ⟨_, rfl, ?_⟩
      by_cases h0 : y = 0
      · refine iT (by simp [h0]) ?_
        refine dss_one ?_
        refine ds_break ?_
        exact fin x y _ h1 h0 h3
      · refine iF (by simp [h0]) ?_
        walk_at "e"
        walk_at "e"
        refine ds_par rfl hN (ixOf_at rfl) (ixOf_at rfl) (by decide) rfl rfl rfl rfl ?_
        repeat walk_at "e"
        refine de_op op_mod ?_
        walk_at "intof"
        repeat walk_at "e"
        refine rc_int ?_
        repeat walk_at "e"
        have hy : 0 < y := by omega
        refine rd_I hy ?_
        repeat walk_at "e"
        refine ⟨_, _, rfl, ?_⟩
        repeat walk_at "e"
        have q1 := Int.emod_nonneg x (show y ≠ 0 by omega)
        have q2 := Int.emod_lt_of_pos x hy
        have hlt2 : i < 2000 := hlt
        refine ⟨by omega, _, _, _, rfl, rfl, h2, q1, by rw [← h3]; exact gcd_step hy, ?_⟩
        right
        omega
    · subst e1 e2
      have hl : (rngD 0 (2000 : Int).toNat).length = 2000 := rngD_length _ _
      rw [hl] at h4
      exact fin x y _ h1 (by omega) h3
theorem ok_q (F : FnP K "_law_q" sQ f fd) (G : Std P w K mg base 1 "_law_gcd" ["_law_one", "_law_two_here"] fsGcd) : FnOk P w K mg base CX0 2 f fd ["_law_top", "_law_bottom"] (spD P w fsQ) := by
  refine fokX F scQ (fun ds O post h => ?_) (fun cdv A outer s H E ds O post hr h => ?_)
  · obtain ⟨a, b, rfl, _⟩ := h; rfl
  · obtain ⟨a, b, rfl, hb, hb2, rfl, k⟩ := h
    have hN := scQ.nd
    repeat walk_at "d"
    refine de_c0 G hr (by decide) rfl (by decide) rfl rfl ?_
    repeat walk_at "d"
    have hg1 : (0 : Int) < Int.gcd a b := by exact_mod_cast Int.gcd_pos_of_ne_zero_right a (by omega)
    have hg2 : (Int.gcd a b : Int) < 1073741824 := by
      have h1 := Int.le_of_dvd hb (Int.gcd_dvd_right a b)
      omega
    refine ⟨a, b, rfl, hb, hb2, rfl, ?_⟩
    repeat walk_at "d"
    refine de_op op_fdiv ?_
    repeat walk_at "d"
    refine rd_I ⟨hg1, hg2⟩ ?_
    repeat walk_at "d"
    refine de_op op_fdiv ?_
    repeat walk_at "d"
    refine rd_I ⟨hg1, hg2⟩ ?_
    repeat walk_at "d"
    exact ⟨sz rfl, k⟩
theorem ok_minus (F : FnP K "_law_minus" sMinus f fd) (G : Std P w K mg base 2 "_law_q" ["_law_top", "_law_bottom"] fsQ) : FnOk P w K mg base CX0 3 f fd ["_law_one", "_law_two_here"] (spD P w fsMinus) := by
  refine fokX F scMinus (fun ds O post h => ?_) (fun cdv A outer s H E ds O post hr h => ?_)
  · obtain ⟨a, b, rfl, _⟩ := h; rfl
  · obtain ⟨p, q, rfl, hp, hq, hpq, hp2, hq2, rfl, k⟩ := h
    have hN := scMinus.nd
    unfold pD
    repeat walk_at "d"
    refine de_c0 G hr (by decide) rfl (by decide) rfl rfl ?_
    walk_at "d"
    refine de_op op_sub ?_
    refine de_op op_mul ?_
    repeat walk_at "d"
    refine ⟨_, _, _, sqd_t, rfl, rfl, ?_⟩
    repeat walk_at "d"
    refine ⟨_, _, _, sqd_t, rfl, rfl, ?_⟩
    refine rd_I (.inr ⟨by omega, by omega⟩) ?_
    refine de_op op_mul ?_
    repeat walk_at "d"
    refine ⟨_, _, _, sqd_t, rfl, rfl, ?_⟩
    repeat walk_at "d"
    refine ⟨_, _, _, sqd_t, rfl, rfl, ?_⟩
    refine rd_I (.inr ⟨by omega, by omega⟩) (rd_I0 ?_)
    walk_at "d"
    refine de_op op_mul ?_
    repeat walk_at "d"
    refine ⟨_, _, _, sqd_t, rfl, rfl, ?_⟩
    repeat walk_at "d"
    refine ⟨_, _, _, sqd_t, rfl, rfl, ?_⟩
    refine rd_I (.inr ⟨by omega, by omega⟩) ?_
    repeat walk_at "d"
    exact ⟨_, _, rfl, Int.mul_pos hp hq, hpq, rfl, k⟩
theorem ok_lt (F : FnP K "_law_less" sLt f fd) : FnOk P w K mg base CX0 1 f fd ["_law_one", "_law_two_here"] (spD P w fsLt) := by
  refine fokX F scLt (fun ds O post h => ?_) (fun cdv A outer s H E ds O post hr h => ?_)
  · obtain ⟨a, b, rfl, _⟩ := h; rfl
  · obtain ⟨p, q, rfl, hp, hq, hp2, hq2, rfl, k⟩ := h
    have hN := scLt.nd
    unfold pD
    repeat walk_at "d"
    refine de_cmpR op_lt (nomark _) ?_
    refine de_op op_mul ?_
    repeat walk_at "d"
    refine ⟨_, _, _, sqd_t, rfl, rfl, ?_⟩
    repeat walk_at "d"
    refine ⟨_, _, _, sqd_t, rfl, rfl, ?_⟩
    refine rd_I (.inr ⟨by omega, by omega⟩) ?_
    refine de_op op_mul ?_
    repeat walk_at "d"
    refine ⟨_, _, _, sqd_t, rfl, rfl, ?_⟩
    repeat walk_at "d"
    refine ⟨_, _, _, sqd_t, rfl, rfl, ?_⟩
    refine rd_I (.inr ⟨by omega, by omega⟩) ?_
    exact rd_B0 k
theorem ok_isratL (F : FnP K "_law_is_ratio" sIsRatL f fd) (B : Bn mg) (G1 : Std P w K mg base 1 "_law_is_whole" ["_law_value"] fsIsWhole) (G2 : Std P w K mg base 1 "_law_gcd" ["_law_one", "_law_two_here"] fsGcd) : FnOk P w K mg base CX0 2 f fd ["_law_value"] (spD P w fsIsRatL) := by
  refine fokX F scIsRatL (fun ds O post h => ?_) (fun cdv A outer s H E ds O post hr h => ?_)
  · obtain ⟨a, rfl, _⟩ := h; rfl
  · obtain ⟨p, rfl, ⟨h0, h1, h2⟩, rfl, k⟩ := h
    have hN := scIsRatL.nd
    unfold pD
    repeat walk_at "d"
    walk_at "val"
    walk_at "isi"
    repeat walk_at "d"
    walk_at "tuple"
    walk_at "d"
    refine rc_isi rfl kb_tt ⟨_, rfl, iF rfl ?_⟩
    repeat walk_at "d"
    refine dt_cmpR op_ne (nomark _) ?_
    walk_at "len"
    repeat walk_at "d"
    refine rc_len sqd_t ?_
    repeat walk_at "d"
    refine rd_neI ⟨_, rfl, iF rfl ?_⟩
    repeat walk_at "d"
    walk_at "val"
    refine de_c0 G1 hr (by decide) rfl (by decide) rfl rfl ?_
    repeat walk_at "d"
    refine ⟨_, _, _, sqd_t, rfl, rfl, ?_⟩
    repeat walk_at "d"
    refine ⟨_, _, _, _, rfl, rfl, kb_ii, kb_ib, rfl, _, rfl, iF rfl ?_⟩
    repeat walk_at "d"
    walk_at "val"
    refine de_c0 G1 hr (by decide) rfl (by decide) rfl rfl ?_
    repeat walk_at "d"
    refine ⟨_, _, _, sqd_t, rfl, rfl, ?_⟩
    repeat walk_at "d"
    refine ⟨_, _, _, _, rfl, rfl, kb_ii, kb_ib, rfl, _, rfl, iF rfl ?_⟩
    repeat walk_at "d"
    refine de_cmpR op_gt (nomark _) ?_
    repeat walk_at "d"
    refine ⟨_, _, _, sqd_t, rfl, rfl, ?_⟩
    repeat walk_at "d"
    refine rd_B0 ⟨_, rfl, iT (decide_eq_true h0) ?_⟩
    repeat walk_at "d"
    refine de_cmpR op_eq (nomark _) ?_
    refine de_c0 G2 hr (by decide) rfl (by decide) rfl rfl ?_
    repeat walk_at "d"
    refine ⟨_, _, _, sqd_t, rfl, rfl, ?_⟩
    repeat walk_at "d"
    refine ⟨_, _, _, sqd_t, rfl, rfl, ?_⟩
    repeat walk_at "d"
    refine ⟨_, _, rfl, h0, h1, rfl, ?_⟩
    rw [h2]
    repeat walk_at "d"
    exact rd_eqI k
theorem ok_arerat (F : FnP K "_law_are_ratios" sAreRat f fd) (B : Bn mg) (G : Std P w K mg base 2 "_law_is_ratio" ["_law_value"] fsIsRatL) : FnOk P w K mg base CX0 3 f fd ["_law_value", "_law_many"] (spD P w fsAreRat) := by
  refine fokX F scAreRat (fun ds O post h => ?_) (fun cdv A outer s H E ds O post hr h => ?_)
  · obtain ⟨a, rfl, _⟩ := h; rfl
  · obtain ⟨ps, rfl, hl, hp, rfl, k⟩ := h
    have hN := scAreRat.nd
    repeat walk_at "d"
    walk_at "isi"
    repeat walk_at "d"
    walk_at "tuple"
    walk_at "d"
    refine rc_isi rfl kb_tt ⟨_, rfl, iT rfl ?_⟩
    repeat walk_at "d"
    refine de_cmpR op_eq (nomark _) ?_
    walk_at "len"
    repeat walk_at "d"
    refine rc_len sqd_t ?_
    repeat walk_at "d"
    refine rd_eqI ⟨_, rfl, iT (by simp) ?_⟩
    repeat walk_at "d"
    refine de_cmpR (op_eqD (room64 hr)) (nomark _) ?_
    refine de_lc (Oz := []) (own := [("_law_one", 2)]) rfl hN (blkOk_by (by kernel_rfl)) (by decide) (by intro _; rfl) (di_tup ?_)
    repeat walk_at "d"
    refine ⟨_, rfl, lcd_filter ps pD pD (fun _ => false) (sz1000 hl) rfl (fun p hpp => ?_) ?_⟩
    · intro _ _ _ _ _
      repeat walk_at "d"
      intro _ _ _ _ _
      repeat walk_at "d"
      walk_at "val"
      refine de_c0 G hr (by decide) rfl (by decide) rfl rfl ?_
      repeat walk_at "d"
      exact ⟨p, rfl, hp p hpp, rfl, _, rfl, rfl, rfl⟩
    · refine de_lst ?_
      repeat walk_at "d"
      refine ⟨sz rfl, ?_⟩
      have e : (ps.filter fun _ => false).map pD = [] := by simp
      rw [e]
      exact rd_eqD rfl rfl rfl rfl k
end
end
section
/-! ### passed, merged -/
theorem gcd_scale {a b c : Int} (hc : 0 < c) (hg : Int.gcd a b = 1) : Int.gcd (a * c) (b * c) = c.natAbs := by
  rw [Int.gcd_mul_right, hg, Nat.one_mul]
theorem red_scale {a b c : Int} (hc : 0 < c) (hg : Int.gcd a b = 1) : a * c / (Int.gcd (a * c) (b * c) : Int) = a ∧ b * c / (Int.gcd (a * c) (b * c) : Int) = b := by
  rw [gcd_scale hc hg]
  have : (c.natAbs : Int) = c := by omega
  rw [this]
  exact ⟨Int.mul_ediv_cancel _ (by omega), Int.mul_ediv_cancel _ (by omega)⟩
section
variable {κ : Type} [DecidableEq κ]
def totG (R : List (Int × κ)) (x : κ) : Int := ((R.filter fun r => decide (r.2 = x)).map (·.1)).sum
theorem totG_snoc (R : List (Int × κ)) (r : Int × κ) (x : κ) : totG (R ++ [r]) x = totG R x + if r.2 = x then r.1 else 0 := by
  unfold totG
  rw [List.filter_append, List.map_append, List.sum_append]
  by_cases h : r.2 = x
  · simp [h]
  · simp [h]
theorem totG_none {R : List (Int × κ)} {x : κ} (h : ∀ r ∈ R, r.2 ≠ x) : totG R x = 0 := by
  unfold totG
  rw [List.filter_eq_nil_iff.mpr fun r hr => by simp [h r hr]]
  rfl
/-- the plain rows of some rows, in some order -/
structure GM (pos : κ → Bool) (R out : List (Int × κ)) : Prop where
  nd : (out.map (·.2)).Nodup
  mem : ∀ r, r ∈ out ↔ r.1 = totG R r.2 ∧ r.1 ≠ 0 ∧ pos r.2 = true
theorem GM.key {pos : κ → Bool} {R out : List (Int × κ)} (h : GM pos R out) {r : Int × κ} (hr : r ∈ out) : ∃ q ∈ R, q.2 = r.2 := by
  obtain ⟨h1, h2, _⟩ := (h.mem r).mp hr
  apply Classical.byContradiction
  intro hno
  exact h2 (by rw [h1]; exact totG_none fun q hq e => hno ⟨q, hq, e⟩)
theorem GM.le {pos : κ → Bool} {R out : List (Int × κ)} (h : GM pos R out) : out.length ≤ R.length := by
  have := nodup_len (l := out.map (·.2)) (m := R.map (·.2)) h.nd fun ps hps => by
    obtain ⟨r, hr, rfl⟩ := List.mem_map.mp hps
    obtain ⟨q, hq, e⟩ := h.key hr
    exact List.mem_map.mpr ⟨q, hq, e⟩
  simpa using this
end
def posL (l : List Int) : Bool := l.any fun n => decide (0 < n)
/-- a row of the law: as many numbers as kinds, none below 0 or above N -/
structure LOk (k : Nat) (N : Int) (r : WRow) : Prop where
  len : r.2.length = k
  ok : ∀ n ∈ r.2, 0 ≤ n ∧ n ≤ N
theorem GM.ok {pos : List Int → Bool} {R out : List WRow} (h : GM pos R out) {k : Nat} {N : Int} (hR : ∀ r ∈ R, LOk k N r) : ∀ r ∈ out, LOk k N r := fun r hr => by
  obtain ⟨q, hq, e⟩ := h.key hr
  have := hR q hq
  exact ⟨by rw [← e]; exact this.len, by rw [← e]; exact this.ok⟩
theorem LOk.mono {k : Nat} {N M : Int} {r : WRow} (h : LOk k N r) (hN : N ≤ M) : LOk k M r := ⟨h.len, fun n hn => ⟨(h.ok n hn).1, Int.le_trans (h.ok n hn).2 hN⟩⟩
def lawKs : List Key := [.inr "kinds", .inr "scale", .inr "rows"]
/-- a list of bids of the law -/
def lawD (k : Nat) (s : Int) (rs : List WRow) : D := .dK lawKs [.int (k : Int), .int s, .lst (rs.map lrowD)]
section
variable {a b c : D}
theorem lawL1 : kLk lawKs [a, b, c] (.inr "kinds") = some a := by kernel_rfl
theorem lawL2 : kLk lawKs [a, b, c] (.inr "scale") = some b := by kernel_rfl
theorem lawL3 : kLk lawKs [a, b, c] (.inr "rows") = some c := by kernel_rfl
end
/-- a row as the law builds it: its numbers in a list or a tuple -/
structure LIn where
  dn : D
  r : WRow
def LIn.d (l : LIn) : D := .tup [.int l.r.1, l.dn]
def LIn.Ok (k : Nat) (N : Int) (l : LIn) : Prop := (l.dn = .lst (l.r.2.map D.int) ∨ l.dn = .tup (l.r.2.map D.int)) ∧ LOk k N l.r
def fsMerged : FS := fun ds O post => ∃ (k : Nat) (s : Int) (rs : List LIn) (N : Int), ds = [.int (k : Int), .int s, .lst (rs.map LIn.d)] ∧ 1 ≤ k ∧ k ≤ 3 ∧ rs.length ≤ 100 ∧ (∀ r ∈ rs, r.Ok k N) ∧ O = [] ∧ ∀ out, GM posL (rs.map LIn.r) out → post (lawD k s out) []
abbrev sMerged : Stmt := topS 50
theorem scMerged : FnScope ["_law_kinds", "_law_scale_here", "_law_rows", "_law_found", "_law_weight", "_law_numbers_here", "_law_plain", "_law_key"] ["_law_kinds", "_law_scale_here", "_law_rows"] (defScope sMerged) := ⟨rfl, rfl, rfl, by decide +kernel, rfl, by decide +kernel, by decide +kernel⟩
section
variable {P : Program} {w : World} {K : PySem.W.Frag} {mg : Str → Option Value} {base : Heap} {f : Addr} {fd : FuncData}
theorem ok_passed (F : FnP K "_law_passed" sPassed f fd) (G1 : Std P w K mg base 1 "_law_draw" ["_law_pen_here", "_law_many"] fsDraw) (G2 : Std P w K mg base 2 "_law_pick" ["_law_pen_here", "_law_some"] fsPick) : FnOk P w K mg base CX0 3 f fd ["_law_pen_here", "_law_ratio"] (spD P w fsPassed) := by
  refine fokX F scPassed (fun ds O post h => ?_) (fun cdv A outer s H E ds O post hr h => ?_)
  · obtain ⟨a, b, c, d, e, rfl, _⟩ := h; rfl
  · obtain ⟨p, m, q, sc, b, rfl, hq0, hq1, hq2, hq3, hg, hdv, rfl, hp, kk⟩ := h
    have hN := scPassed.nd
    have rest : ∀ m', PenOk (b + 2) m' → DSs (cxOf CX0 P w K mg base ["_law_pen_here", "_law_ratio", "_law_by"] "_law_passed" (defScope sPassed) f cdv A outer s H E).nox ((defBody sPassed).drop 1) [some (.raw (.ref p)), some (pD q), none] [(p, m')] (endP post) := by
      intro m' hp'
      refine dss_cons (sts := (defBody sPassed).drop 2) ?_
      unfold pD
      repeat walk_at "d"
      refine de_cO G2 hr (by decide) rfl (by decide) rfl rfl ?_
      repeat walk_at "d"
      refine de_lst ?_
      repeat walk_at "d"
      refine ⟨sz rfl, ?_⟩
      repeat walk_at "d"
      refine ⟨[(p, m')], [], List.Perm.refl _, p, m', _, [.int 1, .int 1, .int 2, .int 5], b + 1, rfl, .inl rfl, by decide, by decide, rfl, hp', fun x m2 hx hp2 => ?_⟩
      have hx' : ∃ c : Int, x = .int c ∧ 0 < c ∧ c ≤ 5 := by
        simp at hx
        rcases hx with rfl | rfl | rfl
        · exact ⟨1, rfl, by decide, by decide⟩
        · exact ⟨2, rfl, by decide, by decide⟩
        · exact ⟨5, rfl, by decide, by decide⟩
      obtain ⟨c, rfl, hc0, hc5⟩ := hx'
      repeat walk_at "d"
      refine de_cO G2 hr (by decide) rfl (by decide) rfl rfl ?_
      repeat walk_at "d"
      refine de_lst ?_
      repeat walk_at "d"
      refine de_op op_mul ?_
      repeat walk_at "d"
      refine ⟨_, _, _, sqd_t, rfl, rfl, ?_⟩
      repeat walk_at "d"
      refine rd_I (.inr ⟨by omega, by omega⟩) ?_
      repeat walk_at "d"
      refine de_op op_mul ?_
      repeat walk_at "d"
      refine ⟨_, _, _, sqd_t, rfl, rfl, ?_⟩
      repeat walk_at "d"
      refine rd_I (.inr ⟨by omega, by omega⟩) ?_
      repeat walk_at "d"
      refine ⟨sz rfl, ?_⟩
      walk_at "d"
      refine de_lst ?_
      repeat walk_at "d"
      refine de_op op_mul ?_
      repeat walk_at "d"
      refine ⟨_, _, _, sqd_t, rfl, rfl, ?_⟩
      repeat walk_at "d"
      refine rd_I (.inr ⟨by omega, by omega⟩) ?_
      repeat walk_at "d"
      refine de_op op_mul ?_
      repeat walk_at "d"
      refine ⟨_, _, _, sqd_t, rfl, rfl, ?_⟩
      repeat walk_at "d"
      refine rd_I (.inr ⟨by omega, by omega⟩) ?_
      repeat walk_at "d"
      refine ⟨sz rfl, ?_⟩
      repeat walk_at "d"
      refine ⟨sz rfl, ?_⟩
      repeat walk_at "d"
      obtain ⟨r1, r2⟩ := red_scale hc0 hg
      have hb0 : 0 < q.2 * c := Int.mul_pos hq2 hc0
      have hb1 : q.2 * c ≤ 1000 * 5 := Int.mul_le_mul hq3 hc5 (by omega) (by decide)
      have ok : ∀ d, PNum d (q.1 * c) (q.2 * c) → NumOk sc (d, q.1 * c, q.2 * c) ∧ redN (d, q.1 * c, q.2 * c) = q := fun d hd =>
        ⟨⟨hd, Int.mul_nonneg hq0 (by omega), by show q.2 * c < 2 ^ 29; omega, by show q.2 * c / (Int.gcd (q.1 * c) (q.2 * c) : Int) ∣ sc; rw [r2]; exact hdv⟩, Prod.ext r1 r2⟩
      refine ⟨[(p, m2)], [], List.Perm.refl _, p, m2, _, _, b, rfl, .inl rfl, Nat.le_of_ble_eq_true rfl, Nat.le_of_ble_eq_true rfl, rfl, hp2, fun x m3 hx hp3 => ?_⟩
      simp at hx
      rcases hx with rfl | rfl
      · obtain ⟨o1, o2⟩ := ok _ (.inr (.inl ⟨rfl, hb0⟩))
        exact kk _ _ o1 o2 hp3
      · obtain ⟨o1, o2⟩ := ok _ (.inr (.inr ⟨rfl, hb0⟩))
        exact kk _ _ o1 o2 hp3
    walk_at "d"
    walk_at "d"
    refine dt_w (dw_and ?_)
    refine dt_cmpR op_eq (nomark _) ?_
    repeat walk_at "d"
    refine ⟨[.int q.1, .int q.2], _, _, sqd_t, rfl, rfl, ?_⟩
    repeat walk_at "d"
    refine rd_eqI ⟨_, rfl, ?_⟩
    by_cases h1 : q.2 = 1
    · refine iT (by simp [h1]) ?_
      refine dw_and1 ?_
      refine dt_cmpR op_eq (nomark _) ?_
      refine de_cO G1 hr (by decide) rfl (by decide) rfl rfl ?_
      repeat walk_at "d"
      refine ⟨[(p, m)], [], List.Perm.refl _, p, m, _, b + 2, rfl, by decide, by decide, rfl, hp, fun r m' r0 r1 hp' => ?_⟩
      repeat walk_at "d"
      refine rd_eqI ⟨_, rfl, ?_⟩
      by_cases hr0 : r = 0
      · refine iT (by simp [hr0]) ?_
        repeat walk_at "d"
        refine ⟨[.int q.1, .int q.2], _, _, sqd_t, rfl, rfl, ?_⟩
        refine kk (.int q.1, q.1, 1) _ ⟨.inl ⟨rfl, rfl⟩, hq0, show (1 : Int) < 2 ^ 29 by decide, ?_⟩ ?_ (hp'.mono (by omega))
        · show (1 : Int) / (Int.gcd q.1 1 : Int) ∣ sc
          simp
        · show (q.1 / (Int.gcd q.1 1 : Int), 1 / (Int.gcd q.1 1 : Int)) = q
          simp
          exact Prod.ext rfl h1.symm
      · refine iF (by simp [hr0]) ?_
        walk_at "d"
        exact rest _ hp'
    · refine iF (by simp [h1]) (iF rfl ?_)
      walk_at "d"
      exact rest _ (hp.mono (by omega))
theorem ok_merged (F : FnP K "_law_merged" sMerged f fd) (B : Bn mg) : FnOk P w K mg base CX0 1 f fd ["_law_kinds", "_law_scale_here", "_law_rows"] (spD P w fsMerged) := by
  refine fokX F scMerged (fun ds O post h => ?_) (fun cdv A outer s H E ds O post hr h => ?_)
  · obtain ⟨a, b, c, d, rfl, _⟩ := h; rfl
  · obtain ⟨k, sc, rs, N, rfl, hk1, hk3, hrl, hrs, rfl, kk⟩ := h
    have hN := scMerged.nd
    have hu9 := room9 hr
    walk_at "e"
    refine ds_st hN rfl (.inr rfl) rfl (.inl rfl) ?_
    refine de_dnewN fun fp => ?_
    repeat walk_at "e"
    refine ds_for .never rfl (by intro _; rfl) (ts := [4, 5]) (di_lst ?_)
    repeat walk_at "e"
    refine ⟨_, rfl, fun i ρ O => i ≤ rs.length ∧ ∃ o4 o5 o6 o7 fk, ρ = [some (.int (k : Int)), some (.int sc), some (.lst (rs.map LIn.d)), some (rawA fp), o4, o5, o6, o7] ∧ O = [(fp, .dN (fk.map kT) (fk.map fun ps => .int (totG ((rs.take i).map LIn.r) ps)))] ∧ fk.Nodup ∧ fk.length ≤ i ∧ (∀ ps, ps ∈ fk ↔ ∃ r ∈ (rs.take i).map LIn.r, r.2 = ps),
      ⟨Nat.zero_le _, _, _, _, _, [], rfl, rfl, List.nodup_nil, Nat.le_refl _, by simp⟩, fun i dd ρ O hdd ⟨hi, o4, o5, o6, o7, fk, e1, e2, hfn, hfl, hfm⟩ => ?_, fun ρ O ⟨hi, o4, o5, o6, o7, fk, e1, e2, hfn, hfl, hfm⟩ => ?_⟩
    · subst e1 e2
      obtain ⟨r, hri, rfl⟩ := map_get hdd
      obtain ⟨hlt, _⟩ := List.getElem?_eq_some_iff.mp hri
      obtain ⟨hdn, hok⟩ := hrs r (List.mem_of_getElem? hri)
      unfold LIn.d
      repeat walk_at "e"
      refine ds_asg (ts := []) ?_ rfl rfl rfl
      refine de_op op_add ?_
      refine de_get2N hu9 ⟨rfl, rfl, rfl, rfl⟩ ?_
      repeat walk_at "e"
      refine ⟨⟨_, _, fp, rfl, 0, .inl rfl⟩, ?_⟩
      walk_at "tupof"
      repeat walk_at "e"
      refine rc_tup (sqd_of hdn) ?_
      repeat walk_at "e"
      refine ⟨_, _, kT r.r.2, ⟨fp, rfl, 0, .inl rfl⟩, (kD_T _).symm, ⟨_, rfl⟩, kT_depth _, ?_⟩
      have eget : (kLk (fk.map kT) (fk.map fun ps => D.int (totG ((rs.take i).map LIn.r) ps)) (kT r.r.2)).getD (.int 0) = .int (totG ((rs.take i).map LIn.r) r.r.2) := by
        rw [lkG (fun _ _ => kT_inj)]
        by_cases hm : r.r.2 ∈ fk
        · rw [if_pos hm]; rfl
        · rw [if_neg hm, totG_none (fun q hq e => hm ((hfm _).mpr ⟨q, hq, e⟩))]
          rfl
      rw [eget]
      repeat walk_at "e"
      refine rd_I0 ?_
      have erow : (rs.take (i + 1)).map LIn.r = (rs.take i).map LIn.r ++ [r.r] := by rw [List.take_add_one, hri]; simp
      refine dg_sub (set_nd hu9) (by intro _; rfl) ?_
      repeat walk_at "e"
      walk_at "tupof"
      repeat walk_at "e"
      refine rc_tup (sqd_of hdn) ?_
      refine std_dn (ks := fk.map kT) (ds := fk.map fun ps => .int (totG ((rs.take i).map LIn.r) ps)) (j := 0) (k := kT r.r.2) (kD_T _).symm ⟨_, rfl⟩ (kT_depth _) rfl ?_ ?_
      · rw [List.length_map]
        exact Nat.lt_of_lt_of_le (show _ < 1000 by omega) (by decide)
      · have ew : D.int (totG ((rs.take i).map LIn.r) r.r.2 + r.r.1) = (fun ps => D.int (totG ((rs.take (i + 1)).map LIn.r) ps)) r.r.2 := by
          show _ = D.int (totG _ _)
          rw [erow, totG_snoc, if_pos rfl]
        rw [ew, dn_putG (fun _ _ => kT_inj) (g' := fun ps => D.int (totG ((rs.take (i + 1)).map LIn.r) ps)) (fun y _ hy => by
          show D.int (totG _ _) = D.int (totG _ _)
          rw [erow, totG_snoc, if_neg (fun e => hy e.symm), Int.add_zero])]
        repeat walk_at "e"
        refine ⟨hlt, _, _, _, _, _, rfl, rfl, putG_nodup hfn, ?_, fun ps => ?_⟩
        · have := putG_len fk r.r.2
          omega
        · rw [mem_putG, hfm, erow]
          constructor
          · rintro (⟨q, h, h'⟩ | rfl)
            · exact ⟨q, List.mem_append_left _ h, h'⟩
            · exact ⟨r.r, by simp, rfl⟩
          · rintro ⟨q, h, h'⟩
            rcases List.mem_append.mp h with h | h
            · exact .inl ⟨q, h, h'⟩
            · simp at h; subst h
              exact .inr h'.symm
    · subst e1 e2
      rw [List.length_map, List.take_length] at hfm
      rw [List.length_map] at hfl
      have eO : [(fp, MO.dN (fk.map kT) (fk.map fun ps => D.int (totG ((rs.take (rs.map LIn.d).length).map LIn.r) ps)))] = [(fp, .dN (fk.map kT) (fk.map fun ps => D.int (totG (rs.map LIn.r) ps)))] := by rw [List.length_map, List.take_length]
      rw [eO]
      have hkey : ∀ ps ∈ fk, ps.length = k := fun ps hps => by
        obtain ⟨r, hr1, rfl⟩ := (hfm ps).mp hps
        obtain ⟨ri, hri, rfl⟩ := List.mem_map.mp hr1
        exact (hrs ri hri).2.len
      generalize hR : rs.map LIn.r = R at hfm kk ⊢
      walk_at "e"
      refine ds_setLc (Oz := []) (i := 6) (own := [("_law_key", 7)]) rfl hN rfl rfl rfl (blkOk_by (by kernel_rfl)) (by decide) (by intro _; rfl) (di_lst ?_)
      refine de_callB (cr_sortA hu9) rfl B.sorted boot_sorted (by decide) (by decide) rfl rfl ?_
      walk_at "e"
      refine de_callTy (call_listN rfl) rfl B.list boot_list (by decide) (by decide) rfl rfl ?_
      repeat walk_at "e"
      refine rc_listN ⟨fp, rfl, 0, .inl rfl⟩ ?_
      repeat walk_at "e"
      have ekk : (fk.map kT).map kD = fk.map fun ps => D.tup (ps.map D.int) := by
        rw [List.map_map]
        exact List.map_congr_left fun ps _ => kD_T ps
      rw [ekk]
      have epy : ∀ ps : List Int, pyD (D.tup (ps.map D.int)) = .tuple (ps.map .int) := fun ps => by
        rw [pyD, pyDs_map, List.map_map]
        rfl
      refine rc_sortA (fun ps hps => plainDs_map fun _ _ => rfl) (fun x y hx hy => ?_) (fun ps hps => ?_) (fun ps hps => ?_) fun ys hys => ?_
      · rw [epy, epy]
        simp only [PySem.W.alike, PySem.W.alike_ints]
      · obtain ⟨n, ns, e⟩ := List.exists_cons_of_length_pos (l := ps) (by rw [hkey ps hps]; omega)
        exact ⟨.int n, ns.map D.int, by rw [e]; rfl⟩
      · rw [epy]
        simp only [PyData.depth, PySem.W.depth_ints]
        omega
      have hysl : ys.length ≤ 100 := by rw [hys.length_eq]; omega
      refine ⟨_, rfl, lcd_filter ys (fun ps => D.tup (ps.map D.int)) (fun ps => lrowD (totG R ps, ps)) (fun ps => decide (totG R ps ≠ 0) && posL ps) (sz1000 (by omega)) rfl (fun ps hps => ?_) ?_⟩
      · have hpf : ps ∈ fk := hys.mem_iff.mp hps
        intro _ _ _ _ _
        repeat walk_at "e"
        intro _ _ _ _ _
        refine dt_w (dw_and ?_)
        refine dt_cmpR op_ne (nomark _) ?_
        refine de_ixN hu9 (fun _ _ => rfl) ?_
        repeat walk_at "e"
        refine ⟨_, _, kT ps, .int (totG R ps), ⟨fp, rfl, 0, .inl rfl⟩, (kD_T _).symm, ⟨_, rfl⟩, kT_depth _, by rw [lkG (fun _ _ => kT_inj), if_pos hpf], ?_⟩
        repeat walk_at "e"
        refine rd_neI ⟨_, rfl, ?_⟩
        by_cases ht : totG R ps = 0
        · refine iF (by simp [ht]) ⟨by simp [ht], ?_⟩
          rw [if_neg (by simp [ht])]
        · refine iT (by simp [ht]) ?_
          refine dw_and1 ?_
          refine dt_cmpR op_gt (nomark _) ?_
          walk_at "max"
          repeat walk_at "e"
          have hne : ps ≠ [] := by intro e; have := hkey ps hpf; rw [e] at this; simp at this; omega
          refine rc_max sqd_t hne fun m hm1 hm2 => ?_
          repeat walk_at "e"
          have epos : posL ps = decide (0 < m) := by
            unfold posL
            by_cases h0 : 0 < m
            · rw [decide_eq_true h0]
              exact List.any_eq_true.mpr ⟨m, hm1, decide_eq_true h0⟩
            · rw [decide_eq_false h0]
              refine List.any_eq_false.mpr fun y hy => ?_
              have := hm2 y hy
              simp
              omega
          refine rd_B0 ⟨_, rfl, by rw [epos]; simp [ht], ?_⟩
          rw [epos]
          by_cases h0 : 0 < m
          · rw [if_pos (by simp [ht, h0])]
            intro _ _ _ _ _
            walk_at "e"
            walk_at "e"
            refine de_ixN hu9 (fun _ _ => rfl) ?_
            repeat walk_at "e"
            refine ⟨_, _, kT ps, .int (totG R ps), ⟨fp, rfl, 0, .inl rfl⟩, (kD_T _).symm, ⟨_, rfl⟩, kT_depth _, by rw [lkG (fun _ _ => kT_inj), if_pos hpf], ?_⟩
            repeat walk_at "e"
            exact ⟨sz rfl, rfl, rfl⟩
          · rw [if_neg (by simp [h0])]
      walk_at "e"
      walk_at "e"
      refine de_drop ?_
      refine de_fz (i := 0) ?_
      refine de_disp rfl rfl (by simp) (by decide) ?_
      refine de_str ?_
      repeat walk_at "e"
      refine ⟨lawKs, rfl, by decide, rfl, Nat.le_of_ble_eq_true rfl, fun p => ⟨p, _, rfl, rfl, rfl, [], ⟨_, List.Perm.refl _, List.nil_sublist _⟩, ?_⟩⟩
      have hfin := kk ((ys.filter fun ps => decide (totG R ps ≠ 0) && posL ps).map fun ps => (totG R ps, ps)) ⟨?_, fun r => ?_⟩
      · unfold lawD at hfin
        rw [List.map_map] at hfin
        exact hfin
      · rw [List.map_map]
        have : (ys.filter fun ps => decide (totG R ps ≠ 0) && posL ps).map ((fun r : WRow => r.2) ∘ fun ps => (totG R ps, ps)) = ys.filter fun ps => decide (totG R ps ≠ 0) && posL ps := by simp [Function.comp_def]
        rw [this]
        exact (hys.nodup_iff.mpr hfn).filter _
      · constructor
        · intro h
          obtain ⟨ps, h1, rfl⟩ := List.mem_map.mp h
          obtain ⟨h2, h3⟩ := List.mem_filter.mp h1
          simp at h3
          exact ⟨rfl, h3.1, h3.2⟩
        · rintro ⟨h1, h2, h3⟩
          refine List.mem_map.mpr ⟨r.2, List.mem_filter.mpr ⟨hys.mem_iff.mpr ?_, by rw [← h1]; simp [h2, h3]⟩, by rw [← h1]⟩
          rw [hfm]
          apply Classical.byContradiction
          intro hno
          exact h2 (by rw [h1]; exact totG_none fun q hq e => hno ⟨q, hq, e⟩)
end
end
section
/-! ### drawn rows -/
def fsNumbers : FS := fun ds O post => ∃ (p : Addr) (m : MO) (k : Nat) (most : Int) (b : Nat), ds = [.raw (.ref p), .int (k : Int), .int most] ∧ 1 ≤ k ∧ k ≤ 3 ∧ 1 ≤ most ∧ most ≤ 6 ∧ O = [(p, m)] ∧ PenOk (b + 20) m ∧ ∀ ns m', ns.length = k → (∀ n ∈ ns, 0 ≤ n ∧ n ≤ 7) → PenOk b m' → post (liD ns) [(p, m')]
abbrev sNumbers : Stmt := topS 51
theorem scNumbers : FnScope ["_law_pen_here", "_law_kinds", "_law_most", "_law_found", "_law_k"] ["_law_pen_here", "_law_kinds", "_law_most"] (defScope sNumbers) := ⟨rfl, rfl, rfl, by decide +kernel, rfl, by decide +kernel, by decide +kernel⟩
def fsBlock : FS := fun ds O post => ∃ (p : Addr) (m : MO) (k : Nat) (most : Int) (b : Nat), ds = [.raw (.ref p), .int (k : Int), .int most] ∧ 2 ≤ k ∧ k ≤ 3 ∧ 1 ≤ most ∧ most ≤ 6 ∧ O = [(p, m)] ∧ PenOk (b + 10) m ∧ ∀ (ls : List LIn) m', ls.length = 4 → (∀ l ∈ ls, LIn.Ok k 7 l) → (∀ l ∈ ls, posL l.r.2 = true) → (ls.map fun l => l.r.1).sum ≠ 0 → PenOk b m' → post (.lst (ls.map LIn.d)) [(p, m')]
abbrev sBlock : Stmt := topS 52
theorem scBlock : FnScope ["_law_pen_here", "_law_kinds", "_law_most", "_law_one", "_law_i", "_law_j", "_law_a", "_law_b", "_law_t", "_law_w", "_law_rows", "_law_weight", "_law_x", "_law_y", "_law_numbers_here"] ["_law_pen_here", "_law_kinds", "_law_most"] (defScope sBlock) := ⟨rfl, rfl, rfl, by decide +kernel, rfl, by decide +kernel, by decide +kernel⟩
def fsScaleL : FS := fun ds O post => ∃ (p : Addr) (m : MO) (b : Nat), ds = [.raw (.ref p)] ∧ O = [(p, m)] ∧ PenOk (b + 1) m ∧ ∀ s m', s = 1 ∨ s = 2 ∨ s = 10 → PenOk b m' → post (.int s) [(p, m')]
abbrev sScaleL : Stmt := topS 53
theorem scScaleL : FnScope ["_law_pen_here"] ["_law_pen_here"] (defScope sScaleL) := ⟨rfl, rfl, rfl, by decide +kernel, rfl, by decide +kernel, by decide +kernel⟩
section
variable {P : Program} {w : World} {K : PySem.W.Frag} {mg : Str → Option Value} {base : Heap} {f : Addr} {fd : FuncData}
abbrev GDraw (P : Program) (w : World) (K : PySem.W.Frag) (mg : Str → Option Value) (base : Heap) : Prop := Std P w K mg base 1 "_law_draw" ["_law_pen_here", "_law_many"] fsDraw
abbrev GPick (P : Program) (w : World) (K : PySem.W.Frag) (mg : Str → Option Value) (base : Heap) : Prop := Std P w K mg base 2 "_law_pick" ["_law_pen_here", "_law_some"] fsPick
theorem ok_scaleL (F : FnP K "_law_scale" sScaleL f fd) (G2 : GPick P w K mg base) : FnOk P w K mg base CX0 3 f fd ["_law_pen_here"] (spD P w fsScaleL) := by
  refine fokX F scScaleL (fun ds O post h => ?_) (fun cdv A outer s H E ds O post hr h => ?_)
  · obtain ⟨a, b, c, rfl, _⟩ := h; rfl
  · obtain ⟨p, m, b, rfl, rfl, hp, kk⟩ := h
    have hN := scScaleL.nd
    repeat walk_at "d"
    refine de_cO G2 hr (by decide) rfl (by decide) rfl rfl ?_
    repeat walk_at "d"
    refine de_lst ?_
    repeat walk_at "d"
    refine ⟨sz rfl, ?_⟩
    repeat walk_at "d"
    refine ⟨[(p, m)], [], List.Perm.refl _, p, m, _, _, b, rfl, .inl rfl, by decide, by decide, rfl, hp, fun x m' hx hp' => ?_⟩
    simp at hx
    rcases hx with rfl | rfl | rfl
    · exact kk _ _ (.inl rfl) hp'
    · exact kk _ _ (.inr (.inl rfl)) hp'
    · exact kk _ _ (.inr (.inr rfl)) hp'
theorem ok_numbers (F : FnP K "_law_numbers" sNumbers f fd) (B : Bn mg) (G1 : GDraw P w K mg base) (G2 : GPick P w K mg base) : FnOk P w K mg base CX0 3 f fd ["_law_pen_here", "_law_kinds", "_law_most"] (spD P w fsNumbers) := by
  refine fokX F scNumbers (fun ds O post h => ?_) (fun cdv A outer s H E ds O post hr h => ?_)
  · obtain ⟨a, b, c, d, e, rfl, _⟩ := h; rfl
  · obtain ⟨p, m, k, most, b, rfl, hk1, hk3, hm1, hm6, rfl, hp, kk⟩ := h
    have hN := scNumbers.nd
    walk_at "d"
    refine ds_setLcO (Oz := []) (i := 3) (own := [("_law_k", 4)]) rfl hN rfl rfl rfl (blkOk_by (by kernel_rfl)) (by decide) (by intro _; rfl) ?_
    walk_at "rng1"
    repeat walk_at "d"
    refine ⟨_, rfl, by omega, by omega, ?_⟩
    rw [Int.toNat_natCast]
    refine ⟨fun i acc O' => i ≤ k ∧ ∃ ns m', acc = ns.map D.int ∧ ns.length = i ∧ (∀ n ∈ ns, 0 ≤ n ∧ n ≤ 7) ∧ O' = [(p, m')] ∧ PenOk (b + 2 + (k - i) * 3) m', ⟨Nat.zero_le _, [], m, rfl, rfl, by simp, rfl, hp.mono (by omega)⟩, fun i d acc O' hd ⟨hi, ns, m', e1, e2, e3, e4, e5⟩ => ?_, fun _ _ _ _ q hq => (nomatch hq), fun acc O' ⟨hi, ns, m', e1, e2, e3, e4, e5⟩ => ?_⟩
    · subst e1 e4
      obtain ⟨hlt, rfl⟩ := rngD_get hd
      have hp0 : PenOk (b + 2 + (k - (i + 1)) * 3 + 1 + 1 + 1) m' := e5.mono (by omega)
      intro _ _ _ _ _
      repeat walk_at "d"
      intro _ _ _ _ _
      refine de_cO G2 hr (by decide) rfl (by decide) rfl rfl ?_
      repeat walk_at "d"
      refine de_lst ?_
      repeat walk_at "d"
      refine de_cO G1 hr (by decide) rfl (by decide) rfl rfl ?_
      repeat walk_at "d"
      refine ⟨[(p, m')], [], List.Perm.refl _, p, m', _, _, rfl, by omega, by omega, rfl, hp0, fun r1 m2 a1 a2 hp1 => ?_⟩
      repeat walk_at "d"
      refine de_cO G1 hr (by decide) rfl (by decide) rfl rfl ?_
      repeat walk_at "d"
      refine ⟨[(p, m2)], [], List.Perm.refl _, p, m2, _, _, rfl, by omega, by omega, rfl, hp1, fun r2 m3 b1 b2 hp2 => ?_⟩
      repeat walk_at "d"
      refine ⟨sz rfl, ?_⟩
      repeat walk_at "d"
      refine ⟨[(p, m3)], [], List.Perm.refl _, p, m3, _, _, _, rfl, .inl rfl, Nat.le_of_ble_eq_true rfl, Nat.le_of_ble_eq_true rfl, rfl, hp2, fun x m4 hx hp3 => ?_⟩
      obtain ⟨n, rfl, n0, n7⟩ : ∃ n : Int, x = .int n ∧ 0 ≤ n ∧ n ≤ 7 := by
        simp at hx
        rcases hx with rfl | rfl | rfl | rfl | rfl
        · exact ⟨0, rfl, by decide, by decide⟩
        · exact ⟨1, rfl, by decide, by decide⟩
        · exact ⟨2, rfl, by decide, by decide⟩
        · exact ⟨r1, rfl, by omega, by omega⟩
        · exact ⟨r2, rfl, by omega, by omega⟩
      refine ⟨by rw [List.length_map]; exact Nat.lt_of_lt_of_le (show _ < 1000 by omega) (by decide), hlt, ns ++ [n], m4, by simp, by simp [e2], fun x hx => ?_, rfl, hp3⟩
      rcases List.mem_append.mp hx with h | h
      · exact e3 x h
      · simp at h; subst h; exact ⟨n0, n7⟩
    · subst e1 e4
      have hnl : ns.length = k := by rw [e2, rngD_length]
      have e5 : PenOk (b + 2) m' := e5.mono (by omega)
      intro a
      have hne : ns ≠ [] := by intro e; rw [e] at hnl; simp at hnl; omega
      repeat walk_at "d"
      refine dt_cmpR op_eq (nomark _) ?_
      walk_at "max"
      repeat walk_at "d"
      refine rc_max (sqd_own (i := 0) rfl) hne fun mx hm1' hm2' => ?_
      repeat walk_at "d"
      refine rd_eqI ⟨_, rfl, ?_⟩
      by_cases h0 : mx = 0
      · refine iT (by simp [h0]) ?_
        walk_at "d"
        refine ds_asg (ts := []) ?_ rfl rfl rfl
        refine de_op op_add ?_
        repeat walk_at "d"
        refine de_cO G1 hr (by decide) rfl (by decide) rfl rfl ?_
        repeat walk_at "d"
        refine ⟨[(p, m')], [(a, .lst (ns.map D.int))], List.Perm.swap _ _ _, p, m', _, b + 1, rfl, by omega, by omega, rfl, e5, fun r1 m2 a1 a2 hp1 => ?_⟩
        refine rd_I0 ?_
        refine dg_sub set_list (by intro _; rfl) ?_
        repeat walk_at "d"
        refine de_cO G1 hr (by decide) rfl (by decide) rfl rfl ?_
        repeat walk_at "d"
        refine ⟨[(p, m2)], [(a, .lst (ns.map D.int))], List.Perm.refl _, p, m2, _, b, rfl, by omega, by omega, rfl, hp1, fun r2 m3 b1 b2 hp2 => ?_⟩
        obtain ⟨rn, rfl⟩ := Int.eq_ofNat_of_zero_le b1
        have hix : ixN (ns.map D.int).length (rn : Int) = some rn := by
          rw [List.length_map, hnl]
          unfold ixN
          simp
          omega
        refine std_list (j := 1) rfl hix ?_
        have ens : (ns.map D.int).set rn (.int (1 + r1)) = (ns.set rn (1 + r1)).map D.int := by rw [List.map_set]
        rw [ens]
        walk_at "d"
        walk_at "d"
        walk_at "d"
        refine de_fz (i := 1) ?_
        repeat walk_at "d"
        refine ⟨a, _, rfl, rfl, rfl, kk _ m3 (by simp [hnl]) (fun n hn => ?_) hp2⟩
        rcases List.mem_or_eq_of_mem_set hn with h | rfl
        · exact e3 n h
        · omega
      · refine iF (by simp [h0]) ?_
        walk_at "d"
        walk_at "d"
        walk_at "d"
        refine de_fz (i := 0) ?_
        repeat walk_at "d"
        exact ⟨a, _, rfl, rfl, rfl, kk _ m' hnl e3 (e5.mono (by omega))⟩
def triD (x : Int × Int × Int) : D := .tup [.int x.1, .int x.2.1, .int x.2.2]
theorem ok_block (F : FnP K "_law_block" sBlock f fd) (B : Bn mg) (G1 : GDraw P w K mg base) : FnOk P w K mg base CX0 2 f fd ["_law_pen_here", "_law_kinds", "_law_most"] (spD P w fsBlock) := by
  refine fokX F scBlock (fun ds O post h => ?_) (fun cdv A outer s H E ds O post hr h => ?_)
  · obtain ⟨a, b, c, d, e, rfl, _⟩ := h; rfl
  · obtain ⟨p, m, k, most, b, rfl, hk2, hk3, hm1, hm6, rfl, hp, kk⟩ := h
    have hN := scBlock.nd
    have hb1 : ∀ {j : Nat}, 1 ≤ 1 := fun {_} => Nat.le_refl _
    walk_at "d"
    refine ds_st hN rfl (by first | exact .inl rfl | exact .inr rfl) rfl (by first | exact .inr rfl | exact .inl rfl) ?_
    refine de_fz (i := 0) ?_
    refine de_op op_rep ?_
    refine de_lst ?_
    repeat walk_at "d"
    refine ⟨sz rfl, ?_⟩
    repeat walk_at "d"
    refine rd_repO rfl ⟨by omega, by omega⟩ (sz1000 (by simp; omega)) fun a0 => ⟨a0, _, rfl, rfl, rfl, ?_⟩
    have e0 : mD (.lst (List.replicate ((k : Int)).toNat [D.int 0]).flatten) = liD (List.replicate k 0) := by
      show D.lst _ = D.lst _
      rw [Int.toNat_natCast, List.map_replicate]
      congr 1
      simp
    rw [e0]
    walk_at "d"
    refine ds_st hN rfl (by first | exact .inl rfl | exact .inr rfl) rfl (by first | exact .inr rfl | exact .inl rfl) ?_
    refine de_cO G1 hr (by decide) rfl (by decide) rfl rfl ?_
    repeat walk_at "d"
    refine ⟨[(p, m)], [], List.Perm.refl _, p, m, _, b + 9, rfl, by omega, by omega, rfl, hp, fun i m1 i0 i1 hp1 => ?_⟩
    walk_at "d"
    refine ds_st hN rfl (by first | exact .inl rfl | exact .inr rfl) rfl (by first | exact .inr rfl | exact .inl rfl) ?_
    refine de_op op_mod ?_
    walk_at "intof"
    walk_at "d"
    refine de_op op_add ?_
    refine de_op op_add ?_
    repeat walk_at "d"
    refine rd_I0 ?_
    refine de_cO G1 hr (by decide) rfl (by decide) rfl rfl ?_
    walk_at "d"
    walk_at "d"
    walk_at "d"
    refine de_op op_sub ?_
    repeat walk_at "d"
    refine rd_I0 ?_
    repeat walk_at "d"
    refine ⟨[(p, m1)], [], List.Perm.refl _, p, m1, _, b + 8, rfl, by omega, by omega, rfl, hp1, fun j0 m2 j00 j01 hp2 => ?_⟩
    refine rd_I0 ?_
    repeat walk_at "d"
    refine rc_int ?_
    repeat walk_at "d"
    refine rd_I (by omega) ?_
    have hj0 := Int.emod_nonneg (i + 1 + j0) (show (k : Int) ≠ 0 by omega)
    have hj1 := Int.emod_lt_of_pos (i + 1 + j0) (show (0 : Int) < (k : Int) by omega)
    have hij : (i + 1 + j0) % (k : Int) ≠ i := by
      have : k = 2 ∨ k = 3 := by omega
      rcases this with rfl | rfl <;> omega
    generalize (i + 1 + j0) % (k : Int) = j at hj0 hj1 hij
    walk_at "d"
    refine ds_par rfl hN (ixOf_at rfl) (ixOf_at rfl) (by decide) rfl rfl rfl rfl ?_
    walk_at "d"
    refine de_op op_add ?_
    repeat walk_at "d"
    refine de_cO G1 hr (by decide) rfl (by decide) rfl rfl ?_
    repeat walk_at "d"
    refine ⟨[(p, m2)], [], List.Perm.refl _, p, m2, _, b + 7, rfl, by omega, by omega, rfl, hp2, fun a m3 a0' a1 hp3 => ?_⟩
    refine rd_I0 ?_
    walk_at "d"
    refine de_op op_add ?_
    repeat walk_at "d"
    refine de_cO G1 hr (by decide) rfl (by decide) rfl rfl ?_
    repeat walk_at "d"
    refine ⟨[(p, m3)], [], List.Perm.refl _, p, m3, _, b + 6, rfl, by omega, by omega, rfl, hp3, fun bb m4 b0 b1 hp4 => ?_⟩
    refine rd_I0 ?_
    repeat walk_at "d"
    refine ⟨_, _, rfl, ?_⟩
    walk_at "d"
    refine ds_par rfl hN (ixOf_at rfl) (ixOf_at rfl) (by decide) rfl rfl rfl rfl ?_
    walk_at "d"
    refine de_op op_add ?_
    repeat walk_at "d"
    refine de_cO G1 hr (by decide) rfl (by decide) rfl rfl ?_
    walk_at "d"
    walk_at "d"
    walk_at "d"
    refine de_op op_sub ?_
    walk_at "min2"
    repeat walk_at "d"
    refine rc_min2 ?_
    repeat walk_at "d"
    refine rd_I0 ?_
    repeat walk_at "d"
    have hmin : 2 ≤ (if 2 + bb < 2 + a then 2 + bb else 2 + a) ∧ (if 2 + bb < 2 + a then 2 + bb else 2 + a) ≤ 2 + a ∧ (if 2 + bb < 2 + a then 2 + bb else 2 + a) ≤ 2 + bb := by split <;> omega
    generalize (if 2 + bb < 2 + a then 2 + bb else 2 + a) = mn at hmin ⊢
    refine ⟨[(p, m4)], [], List.Perm.refl _, p, m4, _, b + 5, rfl, by omega, by omega, rfl, hp4, fun t m5 t0 t1 hp5 => ?_⟩
    refine rd_I0 ?_
    walk_at "d"
    refine de_op op_add ?_
    repeat walk_at "d"
    refine de_cO G1 hr (by decide) rfl (by decide) rfl rfl ?_
    repeat walk_at "d"
    refine ⟨[(p, m5)], [], List.Perm.refl _, p, m5, _, b + 4, rfl, by decide, by decide, rfl, hp5, fun w0 m6 w00 w01 hp6 => ?_⟩
    refine rd_I0 ?_
    repeat walk_at "d"
    refine ⟨_, _, rfl, ?_⟩
    walk_at "d"
    refine ds_st hN rfl (by first | exact .inl rfl | exact .inr rfl) rfl (by first | exact .inr rfl | exact .inl rfl) ?_
    refine de_lstO ?_
    repeat walk_at "d"
    refine ⟨sz rfl, fun rp => ?_⟩
    walk_at "d"
    refine ds_for .never rfl (by intro _; rfl) (ts := [11, 12, 13]) (di_lst ?_)
    refine de_lst ?_
    repeat walk_at "d"
    refine ⟨sz rfl, ?_⟩
    walk_at "d"
    repeat walk_at "d"
    refine de_op op_sub ?_
    repeat walk_at "d"
    refine rd_I0 ?_
    repeat walk_at "d"
    refine ⟨sz rfl, ?_⟩
    repeat walk_at "d"
    refine de_op op_sub ?_
    repeat walk_at "d"
    refine rd_I0 ?_
    repeat walk_at "d"
    refine ⟨sz rfl, ?_⟩
    repeat walk_at "d"
    refine ⟨_, rfl, ?_⟩
    repeat walk_at "d"
    refine de_op op_sub ?_
    repeat walk_at "d"
    refine rd_I0 ?_
    repeat walk_at "d"
    refine de_op op_sub ?_
    repeat walk_at "d"
    refine rd_I0 ?_
    repeat walk_at "d"
    refine ⟨sz rfl, ?_⟩
    repeat walk_at "d"
    refine ⟨sz rfl, ?_⟩
    generalize hxs : [((1 + w0 : Int), (2 + a : Int), (2 + bb : Int)), (1 + w0, 2 + a - (1 + t), 0), (1 + w0, 0, 2 + bb - (1 + t)), (-(1 + w0), 2 + a - (1 + t), 2 + bb - (1 + t))] = xs
    have hws : (xs.map (·.1)).sum ≠ 0 := by
      rw [← hxs]
      show (1 + w0) + ((1 + w0) + ((1 + w0) + (-(1 + w0) + 0))) ≠ 0
      omega
    have hbnd : ∀ x ∈ xs, 0 ≤ x.2.1 ∧ x.2.1 ≤ 7 ∧ 0 ≤ x.2.2 ∧ x.2.2 ≤ 7 ∧ (0 < x.2.1 ∨ 0 < x.2.2) := by
      intro x hx
      rw [← hxs] at hx
      simp only [List.mem_cons, List.not_mem_nil, or_false] at hx
      rcases hx with rfl | rfl | rfl | rfl <;> refine ⟨?_, ?_, ?_, ?_, ?_⟩ <;> simp only [] <;> omega
    have hxl : xs.length = 4 := by rw [← hxs]; rfl
    refine ⟨xs.map triD, by rw [← hxs]; rfl, ?_⟩
    refine ⟨fun n ρ O => n ≤ 4 ∧ ∃ (o11 o12 o13 o14 : Option D) (ls : List LIn), ρ = [some (.raw (.ref p)), some (.int (k : Int)), some (.int most), some (liD (List.replicate k 0)), some (.int i), some (.int j), some (.int (2 + a)), some (.int (2 + bb)), some (.int (1 + t)), some (.int (1 + w0)), some (.raw (.ref rp)), o11, o12, o13, o14] ∧
      O = [(rp, .lst (ls.map LIn.d)), (p, m6)] ∧ ls.length = n ∧ (∀ l ∈ ls, LIn.Ok k 7 l ∧ posL l.r.2 = true) ∧ (ls.map fun l => l.r.1) = (xs.take n).map (·.1), ⟨Nat.zero_le _, _, _, _, _, [], rfl, rfl, rfl, by simp, rfl⟩, fun n d ρ O hd ⟨hn, o11, o12, o13, o14, ls, e1, e2, e3, e4, e5⟩ => ?_, fun ρ O ⟨hn, o11, o12, o13, o14, ls, e1, e2, e3, e4, e5⟩ => ?_⟩
    · subst e1 e2
      obtain ⟨x, hx, rfl⟩ := map_get hd
      obtain ⟨hltn, _⟩ := List.getElem?_eq_some_iff.mp hx
      obtain ⟨x1, x2, x3, x4, x5⟩ := hbnd x (List.mem_of_getElem? hx)
      obtain ⟨ni, rfl⟩ := Int.eq_ofNat_of_zero_le i0
      obtain ⟨nj, rfl⟩ := Int.eq_ofNat_of_zero_le hj0
      unfold triD
      repeat walk_at "d"
      walk_at "listof"
      repeat walk_at "d"
      refine rc_lstO sqd_l fun nq => ?_
      walk_at "d"
      refine ds_asg (ts := []) ?_ rfl rfl rfl
      repeat walk_at "d"
      refine ⟨sz rfl, ?_⟩
      walk_at "d"
      walk_at "d"
      refine dg_sub set_list (by intro _; rfl) ?_
      repeat walk_at "d"
      have hix1 : ixN ((List.replicate k (0 : Int)).map D.int).length (ni : Int) = some ni := by
        rw [List.length_map, List.length_replicate]
        unfold ixN
        simp
        omega
      refine std_list (j := 0) rfl hix1 ?_
      walk_at "d"
      refine dg_sub set_list (by intro _; rfl) ?_
      repeat walk_at "d"
      have hix2 : ixN (((List.replicate k (0 : Int)).map D.int).set ni (.int x.2.1)).length (nj : Int) = some nj := by
        rw [List.length_set, List.length_map, List.length_replicate]
        unfold ixN
        simp
        omega
      refine std_list (j := 0) rfl hix2 ?_
      have ens : (((List.replicate k (0 : Int)).map D.int).set ni (.int x.2.1)).set nj (.int x.2.2) = (((List.replicate k (0 : Int)).set ni x.2.1).set nj x.2.2).map D.int := by rw [List.map_set, List.map_set]
      rw [ens]
      have hns : ∀ y ∈ ((List.replicate k (0 : Int)).set ni x.2.1).set nj x.2.2, 0 ≤ y ∧ y ≤ 7 := by
        intro y hy
        rcases List.mem_or_eq_of_mem_set hy with h | rfl
        · rcases List.mem_or_eq_of_mem_set h with h | rfl
          · have := (List.mem_replicate.mp h).2
            omega
          · exact ⟨x1, x2⟩
        · exact ⟨x3, x4⟩
      have hnl : (((List.replicate k (0 : Int)).set ni x.2.1).set nj x.2.2).length = k := by simp
      have hnp : posL (((List.replicate k (0 : Int)).set ni x.2.1).set nj x.2.2) = true := by
        unfold posL
        rw [List.any_eq_true]
        have hne : nj ≠ ni := fun z => hij (by rw [z])
        rcases x5 with h | h
        · refine ⟨x.2.1, List.mem_of_getElem? (i := ni) ?_, decide_eq_true h⟩
          rw [List.getElem?_set_ne hne, List.getElem?_set_self (by rw [List.length_replicate]; omega)]
        · refine ⟨x.2.2, List.mem_of_getElem? (i := nj) ?_, decide_eq_true h⟩
          rw [List.getElem?_set_self (by rw [List.length_set, List.length_replicate]; omega)]
      generalize ((List.replicate k (0 : Int)).set ni x.2.1).set nj x.2.2 = ns at hns hnl hnp ⊢
      walk_at "d"
      refine dss_fz 0 14 rfl rfl rfl ?_
      repeat walk_at "d"
      walk_at "expr"
      refine de_append rfl rfl rfl rfl rfl ?_
      repeat walk_at "d"
      refine ⟨⟨_, sqd_own (i := 0) rfl, rp, rfl⟩, ?_⟩
      repeat walk_at "d"
      refine ⟨sz rfl, ?_⟩
      repeat walk_at "d"
      refine ⟨rp, 0, _, _, rfl, rfl, rfl, ?_, ?_⟩
      · rw [List.length_map]
        exact Nat.lt_of_lt_of_le (show _ < 1000 by omega) (by decide)
      repeat walk_at "d"
      refine ⟨by omega, _, _, _, _, ls ++ [⟨.lst (ns.map D.int), (x.1, ns)⟩], rfl, ?_, by simp [e3], fun l hl => ?_, ?_⟩
      · rw [List.map_append]
        rfl
      · rcases List.mem_append.mp hl with h | h
        · exact e4 l h
        · simp at h; subst h
          exact ⟨⟨.inl rfl, hnl, hns⟩, hnp⟩
      · rw [List.map_append, e5, List.take_add_one, hx, List.map_append]
        rfl
    · subst e1 e2
      walk_at "d"
      walk_at "d"
      refine de_fz (i := 0) ?_
      repeat walk_at "d"
      refine ⟨rp, _, rfl, rfl, rfl, kk ls m6 (by rw [e3, List.length_map, hxl]) (fun l hl => (e4 l hl).1) (fun l hl => (e4 l hl).2) (by rw [e5, List.length_map, List.take_length]; exact hws) (hp6.mono (by omega))⟩
end
end
section
/-! ### buyer, list, sum, difference -/
/-- what a plain list of the law is -/
structure Plain (out : List WRow) : Prop where
  nd : (out.map (·.2)).Nodup
  nz : ∀ r ∈ out, r.1 ≠ 0 ∧ posL r.2 = true
theorem GM.plain {R out : List WRow} (h : GM posL R out) : Plain out := ⟨h.nd, fun r hr => ((h.mem r).mp hr).2⟩
abbrev GMerged (P : Program) (w : World) (K : PySem.W.Frag) (mg : Str → Option Value) (base : Heap) : Prop := Std P w K mg base 1 "_law_merged" ["_law_kinds", "_law_scale_here", "_law_rows"] fsMerged
abbrev GNumbers (P : Program) (w : World) (K : PySem.W.Frag) (mg : Str → Option Value) (base : Heap) : Prop := Std P w K mg base 3 "_law_numbers" ["_law_pen_here", "_law_kinds", "_law_most"] fsNumbers
def fsBuyer : FS := fun ds O post => ∃ (p : Addr) (m : MO) (k : Nat) (s most : Int) (n b : Nat), ds = [.raw (.ref p), .int (k : Int), .int s, .int most, .int (n : Int)] ∧ 1 ≤ k ∧ k ≤ 3 ∧ 1 ≤ most ∧ most ≤ 6 ∧ n ≤ 3 ∧ O = [(p, m)] ∧ PenOk (b + 80) m ∧
  ∀ out m', Plain out → (∀ r ∈ out, LOk k 7 r) → out.length ≤ n → PenOk b m' → post (lawD k s out) [(p, m')]
abbrev sBuyer : Stmt := topS 54
theorem scBuyer : FnScope ["_law_pen_here", "_law_kinds", "_law_scale_here", "_law_most", "_law_many", "_law_rows", "_law_lap"] ["_law_pen_here", "_law_kinds", "_law_scale_here", "_law_most", "_law_many"] (defScope sBuyer) := ⟨rfl, rfl, rfl, by decide +kernel, rfl, by decide +kernel, by decide +kernel⟩
abbrev GBuyer (P : Program) (w : World) (K : PySem.W.Frag) (mg : Str → Option Value) (base : Heap) : Prop := Std P w K mg base 4 "_law_buyer" ["_law_pen_here", "_law_kinds", "_law_scale_here", "_law_most", "_law_many"] fsBuyer
def fsList : FS := fun ds O post => ∃ (p : Addr) (m : MO) (k : Nat) (s most : Int) (n b : Nat), ds = [.raw (.ref p), .int (k : Int), .int s, .int most, .int (n : Int)] ∧ 1 ≤ k ∧ k ≤ 3 ∧ 1 ≤ most ∧ most ≤ 6 ∧ n ≤ 3 ∧ O = [(p, m)] ∧ PenOk (b + 120) m ∧
  ∀ out m', Plain out → (∀ r ∈ out, LOk k 7 r) → out.length ≤ n + 1 → PenOk b m' → post (lawD k s out) [(p, m')]
abbrev sList : Stmt := topS 55
theorem scList : FnScope ["_law_pen_here", "_law_kinds", "_law_scale_here", "_law_most", "_law_many", "_law_way", "_law_found", "_law_rows", "_law_k"] ["_law_pen_here", "_law_kinds", "_law_scale_here", "_law_most", "_law_many"] (defScope sList) := ⟨rfl, rfl, rfl, by decide +kernel, rfl, by decide +kernel, by decide +kernel⟩
def lIn (r : WRow) : LIn := ⟨.tup (r.2.map D.int), r⟩
theorem lIn_d (rs : List WRow) : rs.map lrowD = (rs.map lIn).map LIn.d := by rw [List.map_map]; rfl
theorem lIn_r (rs : List WRow) : (rs.map lIn).map LIn.r = rs := by rw [List.map_map]; exact List.map_id' rs
theorem lIn_ok {k : Nat} {N : Int} {r : WRow} (h : LOk k N r) : (lIn r).Ok k N := ⟨.inr rfl, h⟩
/-! data that is compared with [] -/
mutual
def layD : D → Bool
  | .str _ => false
  | .tup ds => layDs ds
  | .lst ds => layDs ds
  | _ => true
def layDs : List D → Bool
  | [] => true
  | d :: ds => layD d && layDs ds
end
mutual
theorem lay_pyD : ∀ d : D, layD d = true → (pyD d).canLay0 = true
  | .non, _ => by simp [pyD, PyData.canLay0]
  | .bl _, _ => by simp [pyD, PyData.canLay0]
  | .int _, _ => by simp [pyD, PyData.canLay0]
  | .str _, h => by cases h
  | .tup ds, h => by rw [pyD, PyData.canLay0]; exact lay_pyDs ds h
  | .lst ds, h => by rw [pyD, PyData.canLay0]; exact lay_pyDs ds h
  | .dK _ _, _ => by simp [pyD, PyData.canLay0]
  | .ins _ _ _, _ => by simp [pyD, PyData.canLay0]
  | .raw _, _ => by simp [pyD, PyData.canLay0]
  | .ext _, _ => by simp [pyD, PyData.canLay0]
theorem lay_pyDs : ∀ ds : List D, layDs ds = true → PyData.canLayAll0 (pyDs ds) = true
  | [], _ => by simp [pyDs, PyData.canLayAll0]
  | d :: ds, h => by
    rw [layDs, Bool.and_eq_true] at h
    rw [pyDs, PyData.canLayAll0, lay_pyD d h.1, lay_pyDs ds h.2]; rfl
end
theorem layDs_map {α : Type} {f : α → D} : ∀ {xs : List α}, (∀ x ∈ xs, layD (f x) = true) → layDs (xs.map f) = true
  | [], _ => rfl
  | x :: xs, h => by rw [List.map_cons, layDs, h x List.mem_cons_self, layDs_map fun y hy => h y (List.mem_cons_of_mem _ hy)]; rfl
theorem dep_map {α : Type} {f : α → D} {n : Nat} : ∀ {xs : List α}, (∀ x ∈ xs, (pyD (f x)).depth ≤ n) → PyData.depthAll (pyDs (xs.map f)) ≤ n
  | [], _ => by rw [List.map_nil, pyDs, PyData.depthAll]; exact Nat.zero_le _
  | x :: xs, h => by
    rw [List.map_cons, pyDs, PyData.depthAll]
    have h1 := h x List.mem_cons_self
    have h2 := dep_map (f := f) fun y hy => h y (List.mem_cons_of_mem x hy)
    omega
theorem shaped_of {d : D} (hl : layD d = true) (h : (pyD d).depth ≤ 64) : SeqAt.shaped (pyD d) = true := by
  unfold SeqAt.shaped
  rw [lay_pyD d hl, decide_eq_true h]
  rfl
theorem dep_lrow (r : WRow) : (pyD (lrowD r)).depth ≤ 2 := by
  unfold lrowD
  rw [pyD, pyDs, pyDs, pyDs, PyData.depth, PyData.depthAll, PyData.depthAll, PyData.depthAll, pyD, pyD, PyData.depth, PyData.depth]
  have := dep_map (f := D.int) (n := 0) (xs := r.2) fun n _ => by rw [pyD, PyData.depth]; exact Nat.le_refl _
  omega
theorem plain_lrow (r : WRow) : plainD (lrowD r) = true := by
  unfold lrowD
  rw [plainD, plainDs, plainDs, plainDs, plainD, plainD, plainDs_map (fun _ _ => rfl)]
  rfl
theorem lay_lrow (r : WRow) : layD (lrowD r) = true := by
  unfold lrowD
  simp only [layD, layDs, layDs_map (f := D.int) (xs := r.2) (fun _ _ => rfl), Bool.and_true]
theorem rows_shaped (rs : List WRow) : SeqAt.shaped (pyD (.lst (rs.map lrowD))) = true := shaped_of (by rw [layD]; exact layDs_map fun r _ => lay_lrow r) (by
  rw [pyD, PyData.depth]
  have := dep_map (f := lrowD) (n := 2) (xs := rs) fun r _ => dep_lrow r
  omega)
theorem eqv_nil (xs : List D) : PyData.eqv (pyD (.lst xs)) (pyD (.lst [])) = xs.isEmpty := by
  rw [pyD, pyD, PyData.eqv]
  cases xs with
  | nil => simp [pyDs, PyData.eqvAll]
  | cons x xs => simp [pyDs, PyData.eqvAll]
section
variable {P : Program} {w : World} {K : PySem.W.Frag} {mg : Str → Option Value} {base : Heap} {f : Addr} {fd : FuncData}
theorem ok_buyer (F : FnP K "_law_buyer" sBuyer f fd) (B : Bn mg) (G1 : GDraw P w K mg base) (G2 : GNumbers P w K mg base) (G3 : GMerged P w K mg base) : FnOk P w K mg base CX0 4 f fd ["_law_pen_here", "_law_kinds", "_law_scale_here", "_law_most", "_law_many"] (spD P w fsBuyer) := by
  refine fokX F scBuyer (fun ds O post h => ?_) (fun cdv A outer s H E ds O post hr h => ?_)
  · obtain ⟨a, b, c, d, e, g, i, rfl, _⟩ := h; rfl
  · obtain ⟨p, m, k, sc, most, n, b, rfl, hk1, hk3, hm1, hm6, hn3, rfl, hp, kk⟩ := h
    have hN := scBuyer.nd
    walk_at "d"
    refine ds_st hN rfl (by first | exact .inl rfl | exact .inr rfl) rfl (by first | exact .inr rfl | exact .inl rfl) ?_
    refine de_lst ?_
    repeat walk_at "d"
    refine ⟨sz rfl, ?_⟩
    repeat walk_at "d"
    refine ds_for .never rfl (by intro _; rfl) (ts := [6]) ?_
    walk_at "rng1"
    repeat walk_at "d"
    refine ⟨_, rfl, by decide, by decide, ?_⟩
    refine ⟨fun i ρ O => i ≤ 3 ∧ ∃ (o : Option D) (ls : List LIn) (n' : Nat) (m' : MO), ρ = [some (.raw (.ref p)), some (.int (k : Int)), some (.int sc), some (.int most), some (.int (n' : Int)), some (.lst (ls.map LIn.d)), o] ∧ O = [(p, m')] ∧ ls.length + n' ≤ n ∧ (∀ l ∈ ls, LIn.Ok k 7 l) ∧ PenOk (b + 5 + (3 - i) * 25) m',
      ⟨Nat.zero_le _, _, [], n, m, rfl, rfl, by simp, by simp, hp.mono (by omega)⟩, fun i d ρ O hd ⟨hi, o, ls, n', m', e1, e2, e3, e4, e5⟩ => ?_, fun ρ O ⟨hi, o, ls, n', m', e1, e2, e3, e4, e5⟩ => ?_⟩
    · subst e1 e2
      obtain ⟨hlt, rfl⟩ := rngD_get hd
      have hlt : i < 3 := hlt
      have hp0 : PenOk (b + 5 + (3 - (i + 1)) * 25 + 20 + 1) m' := e5.mono (by omega)
      walk_at "d"
      refine dss_one ?_
      refine ds_if (DT.imp (post := fun b O' => b = false ∧ O' = [(p, m')]) ?_ (fun b O' ⟨e1, e2⟩ => ?_))
      · refine dt_w (dw_and ?_)
        refine dt_cmpR op_gt (nomark _) ?_
        repeat walk_at "d"
        refine rd_B0 ⟨_, rfl, ?_⟩
        by_cases hk : (1 : Int) < (k : Int)
        · refine iT (decide_eq_true hk) ?_
          refine dw_and ?_
          refine dt_cmpR op_ge (nomark _) ?_
          repeat walk_at "d"
          refine rd_B0 ⟨_, rfl, iF (decide_eq_false (by omega)) ⟨rfl, rfl⟩⟩
        · exact iF (decide_eq_false hk) ⟨rfl, rfl⟩
      subst e1 e2
      refine iF rfl ?_
      repeat walk_at "d"
      refine dt_cmpR op_gt (nomark _) ?_
      repeat walk_at "d"
      refine rd_B0 ⟨_, rfl, ?_⟩
      by_cases hn0 : (0 : Int) < (n' : Int)
      · refine iT (decide_eq_true hn0) ?_
        walk_at "d"
        refine ds_par rfl hN (ixOf_at rfl) (ixOf_at rfl) (by decide) rfl rfl rfl rfl ?_
        walk_at "d"
        refine de_op op_cat ?_
        repeat walk_at "d"
        refine de_lst ?_
        repeat walk_at "d"
        refine de_op op_add ?_
        repeat walk_at "d"
        refine de_cO G1 hr (by decide) rfl (by decide) rfl rfl ?_
        repeat walk_at "d"
        refine ⟨[(p, m')], [], List.Perm.refl _, p, m', _, _, rfl, by decide, by decide, rfl, hp0, fun r1 m2 a1 a2 hp1 => ?_⟩
        refine rd_I0 ?_
        repeat walk_at "d"
        refine de_cO G2 hr (by decide) rfl (by decide) rfl rfl ?_
        repeat walk_at "d"
        refine ⟨[(p, m2)], [], List.Perm.refl _, p, m2, k, most, _, rfl, hk1, hk3, hm1, hm6, rfl, hp1, fun ns m3 hnl hns hp2 => ?_⟩
        repeat walk_at "d"
        refine ⟨sz rfl, ?_⟩
        repeat walk_at "d"
        refine ⟨sz rfl, rd_cat (.inl rfl) (.inl rfl) (sz1000 (by rw [List.length_map]; simp; omega)) ?_⟩
        walk_at "d"
        refine de_op op_sub ?_
        repeat walk_at "d"
        refine rd_I0 ?_
        repeat walk_at "d"
        refine ⟨_, _, rfl, ?_⟩
        repeat walk_at "d"
        have en : ((n' : Int) - 1) = ((n' - 1 : Nat) : Int) := by omega
        refine ⟨by omega, some (.int (0 + (i : Int))), ls ++ [⟨liD ns, (1 + r1, ns)⟩], n' - 1, m3, ?_, rfl, by simp; omega, fun l hl => ?_, hp2⟩
        · rw [en, List.map_append]
          rfl
        · rcases List.mem_append.mp hl with h | h
          · exact e4 l h
          · simp at h; subst h
            exact ⟨.inl rfl, hnl, hns⟩
      · refine iF (decide_eq_false hn0) ?_
        repeat walk_at "d"
        exact ⟨by omega, _, ls, n', m', rfl, rfl, e3, e4, hp0.mono (by omega)⟩
    · subst e1 e2
      repeat walk_at "d"
      refine de_drop ?_
      refine de_cO G3 hr (by decide) rfl (by decide) rfl rfl ?_
      repeat walk_at "d"
      refine ⟨[], [(p, m')], List.Perm.refl _, k, sc, ls, 7, rfl, hk1, hk3, by omega, e4, rfl, fun out hout => ⟨[(p, m')], ⟨_, List.Perm.refl _, List.Sublist.refl _⟩, ?_⟩⟩
      refine kk out m' hout.plain (hout.ok fun r hr => ?_) ?_ (e5.mono (by omega))
      · obtain ⟨l, hl, rfl⟩ := List.mem_map.mp hr
        exact (e4 l hl).2
      · have := hout.le
        rw [List.length_map] at this
        omega
theorem ok_list (F : FnP K "_law_list" sList f fd) (B : Bn mg) (G1 : GDraw P w K mg base) (G2 : GNumbers P w K mg base) (G3 : GMerged P w K mg base) (G4 : GBuyer P w K mg base) : FnOk P w K mg base CX0 5 f fd ["_law_pen_here", "_law_kinds", "_law_scale_here", "_law_most", "_law_many"] (spD P w fsList) := by
  refine fokX F scList (fun ds O post h => ?_) (fun cdv A outer s H E ds O post hr h => ?_)
  · obtain ⟨a, b, c, d, e, g, i, rfl, _⟩ := h; rfl
  · obtain ⟨p, m, k, sc, most, n, b, rfl, hk1, hk3, hm1, hm6, hn3, rfl, hp, kk⟩ := h
    have hN := scList.nd
    have hu1 := room1 hr
    walk_at "e"
    refine ds_par rfl hN (ixOf_at rfl) (ixOf_at rfl) (by decide) rfl rfl rfl rfl ?_
    walk_at "e"
    refine de_cO G1 hr (by decide) rfl (by decide) rfl rfl ?_
    repeat walk_at "e"
    refine ⟨[(p, m)], [], List.Perm.refl _, p, m, _, b + 119, rfl, by decide, by decide, rfl, hp, fun way m1 a1 a2 hp1 => ?_⟩
    walk_at "e"
    refine de_cO G4 hr (by decide) rfl (by decide) rfl rfl ?_
    repeat walk_at "e"
    refine ⟨[(p, m1)], [], List.Perm.refl _, p, m1, k, sc, most, n, b + 39, rfl, hk1, hk3, hm1, hm6, hn3, rfl, hp1, fun out m2 hpl hok hol hp2 => ?_⟩
    repeat walk_at "e"
    refine ⟨_, _, rfl, ?_⟩
    walk_at "e"
    refine ds_if (DT.imp (post := fun b O' => (b = true ∨ out ≠ []) ∧ O' = [(p, m2)]) ?_ (fun b' O' ⟨e1, e2⟩ => ?_))
    · refine dt_w (dw_or ?_)
      refine dt_cmpR op_eq (nomark _) ?_
      repeat walk_at "e"
      refine rd_eqI ⟨_, rfl, ?_⟩
      by_cases hw : way = 0
      · exact iT (by simp [hw]) ⟨.inl rfl, rfl⟩
      · refine iF (by simp [hw]) ?_
        refine dw_or1 ?_
        refine dt_cmpR (op_eqD (room64 hr)) (nomark _) ?_
        refine de_ixK hu1 (fun _ _ => rfl) ?_
        repeat walk_at "e"
        refine ⟨lawKs, _, .inr "rows", _, .inl rfl, rfl, lawL3, ?_⟩
        refine de_lst ?_
        repeat walk_at "e"
        refine ⟨sz rfl, rd_eqD (by rw [plainD]; exact plainDs_map fun r _ => plain_lrow r) rfl (rows_shaped out) rfl ?_⟩
        rw [eqv_nil]
        refine ⟨_, rfl, ?_, rfl⟩
        cases out with
        | nil => exact .inl rfl
        | cons r rs => exact .inr (by simp)
    subst e2
    by_cases hb : b' = true
    · refine iT hb ?_
      repeat walk_at "e"
      exact kk out m2 hpl hok (by omega) (hp2.mono (by omega))
    · refine iF (by simpa using hb) ?_
      have hne : out ≠ [] := e1.resolve_left hb
      have hout0 : 0 < out.length := List.length_pos_iff.mpr hne
      repeat walk_at "e"
      walk_at "listof"
      walk_at "e"
      refine de_ixK hu1 (fun _ _ => rfl) ?_
      repeat walk_at "e"
      refine ⟨lawKs, _, .inr "rows", _, .inl rfl, rfl, lawL3, ?_⟩
      repeat walk_at "e"
      refine rc_lstO sqd_l fun rp => ?_
      rw [lIn_d]
      have last : ∀ (ls : List LIn) (mm : MO) (q8 : Option D), ls.length ≤ n → (∀ l ∈ ls, LIn.Ok k 7 l) → PenOk (b + 30) mm → ∀ rp : Addr, DSs (cxOf CX0 P w K mg base ["_law_pen_here", "_law_kinds", "_law_scale_here", "_law_most", "_law_many", "_law_way", "_law_found", "_law_rows", "_law_k"] "_law_list" (defScope sList) f cdv A outer s H E).nox ((defBody sList).drop 4)
          [some (.raw (.ref p)), some (.int (k : Int)), some (.int sc), some (.int most), some (.int (n : Int)), some (.int way), some (lawD k sc out), some (.lst (ls.map LIn.d)), q8] [(p, mm)] (endP post) := by
        intro ls mm q8 hll hlok hpm rp
        refine dss_cons (sts := (defBody sList).drop 5) ?_
        walk_at "e"
        refine dt_cmpR op_eq (nomark _) ?_
        repeat walk_at "e"
        refine rd_eqI ⟨_, rfl, ?_⟩
        have fin : ∀ (ls : List LIn) (mm : MO), ls.length ≤ n + 1 → (∀ l ∈ ls, LIn.Ok k 7 l) → PenOk b mm → DSs (cxOf CX0 P w K mg base ["_law_pen_here", "_law_kinds", "_law_scale_here", "_law_most", "_law_many", "_law_way", "_law_found", "_law_rows", "_law_k"] "_law_list" (defScope sList) f cdv A outer s H E).nox ((defBody sList).drop 5)
            [some (.raw (.ref p)), some (.int (k : Int)), some (.int sc), some (.int most), some (.int (n : Int)), some (.int way), some (lawD k sc out), some (.lst (ls.map LIn.d)), q8] [(p, mm)] (endP post) := by
          intro ls mm hll hlok hpm
          refine dss_cons (sts := []) ?_
          walk_at "e"
          refine de_drop ?_
          refine de_cO G3 hr (by decide) rfl (by decide) rfl rfl ?_
          walk_at "e"
          refine de_v rfl (.inl rfl) (by decide) (by decide) rfl ?_
          walk_at "e"
          refine de_v rfl (.inl rfl) (by decide) (by decide) rfl ?_
          walk_at "e"
          refine de_v rfl (.inl rfl) (by decide) (by decide) rfl ?_
          repeat walk_at "e"
          refine ⟨[], [(p, mm)], List.Perm.refl _, k, sc, ls, 7, rfl, hk1, hk3, by omega, hlok, rfl, fun out hout => ⟨[(p, mm)], ⟨_, List.Perm.refl _, List.Sublist.refl _⟩, ?_⟩⟩
          refine kk out mm hout.plain (hout.ok fun r hr => ?_) ?_ hpm
          · obtain ⟨l, hl, rfl⟩ := List.mem_map.mp hr
            exact (hlok l hl).2
          · have := hout.le
            rw [List.length_map] at this
            omega
        by_cases hw2 : way = 2
        · refine iT (by simp [hw2]) ?_
          walk_at "e"
          refine ds_st hN rfl (.inl rfl) rfl (.inr rfl) ?_
          refine de_op op_cat ?_
          refine de_v rfl (.inl rfl) (by decide) (by decide) rfl ?_
          refine de_lst ?_
          walk_at "e"
          refine de_tup ?_
          walk_at "e"
          refine de_op op_sub ?_
          refine de_negI ?_
          refine de_cO G1 hr (by decide) rfl (by decide) rfl rfl ?_
          walk_at "e"
          refine de_v rfl (.inl rfl) (by decide) (by decide) rfl ?_
          repeat walk_at "e"
          refine ⟨[(p, mm)], [], List.Perm.refl _, p, mm, _, _, rfl, by decide, by decide, rfl, hpm, fun r1 m3 a1 a2 hp3 => ?_⟩
          refine rd_I0 ?_
          walk_at "e"
          refine de_cO G2 hr (by decide) rfl (by decide) rfl rfl ?_
          walk_at "e"
          refine de_v rfl (.inl rfl) (by decide) (by decide) rfl ?_
          walk_at "e"
          refine de_v rfl (.inl rfl) (by decide) (by decide) rfl ?_
          walk_at "e"
          refine de_v rfl (.inl rfl) (by decide) (by decide) rfl ?_
          repeat walk_at "e"
          refine ⟨[(p, m3)], [], List.Perm.refl _, p, m3, k, most, b + 9, rfl, hk1, hk3, hm1, hm6, rfl, hp3, fun ns m4 hnl hns hp4 => ?_⟩
          repeat walk_at "e"
          refine ⟨sz rfl, ?_⟩
          repeat walk_at "e"
          refine ⟨sz rfl, rd_cat (.inl rfl) (.inl rfl) (sz1000 (by rw [List.length_map]; simp; omega)) ?_⟩
          have e : ls.map LIn.d ++ [D.tup [.int (-1 - r1), liD ns]] = (ls ++ [LIn.mk (liD ns) (-1 - r1, ns)]).map LIn.d := by rw [List.map_append]; rfl
          rw [e]
          refine dss_nil ?_
          refine fin _ m4 (by simp; omega) (fun l hl => ?_) (hp4.mono (by omega))
          rcases List.mem_append.mp hl with h | h
          · exact hlok l h
          · simp at h; subst h
            exact ⟨.inl rfl, hnl, hns⟩
        · refine iF (by simp [hw2]) ?_
          walk_at "e"
          exact fin ls mm (by omega) hlok (hpm.mono (by omega))
      have hls : ∀ l ∈ out.map lIn, LIn.Ok k 7 l := fun l hl => by
        obtain ⟨r, hr, rfl⟩ := List.mem_map.mp hl
        exact lIn_ok (hok r hr)
      walk_at "e"
      walk_at "e"
      refine dt_cmpR op_eq (nomark _) ?_
      repeat walk_at "e"
      refine rd_eqI ⟨_, rfl, ?_⟩
      by_cases hw1 : way = 1
      · refine iT (by simp [hw1]) ?_
        walk_at "e"
        refine ds_st hN rfl (.inl rfl) rfl (.inr rfl) ?_
        refine de_cO G1 hr (by decide) rfl (by decide) rfl rfl ?_
        repeat walk_at "e"
        walk_at "len"
        repeat walk_at "e"
        refine rc_len (sqd_own (i := 0) rfl) ?_
        repeat walk_at "e"
        rw [List.length_map, List.length_map]
        refine ⟨[(p, m2)], [(rp, .lst ((out.map lIn).map LIn.d))], List.Perm.swap _ _ _, p, m2, _, b + 38, rfl, by omega, by omega, rfl, hp2, fun r1 m3 a1 a2 hp3 => ?_⟩
        obtain ⟨rn, rfl⟩ := Int.eq_ofNat_of_zero_le a1
        obtain ⟨r, hrn⟩ : ∃ r, out[rn]? = some r := ⟨_, List.getElem?_eq_getElem (by omega)⟩
        have hrd : ((out.map lIn).map LIn.d)[rn]? = some (.tup [.int r.1, .tup (r.2.map D.int)]) := map_at (map_at hrn)
        walk_at "e"
        refine ds_asg (ts := []) ?_ rfl rfl rfl
        refine de_tup ?_
        walk_at "e"
        refine de_op op_sub ?_
        refine de_op op_sub ?_
        refine de_ix (fun _ _ => rfl) ?_
        refine de_ix (fun _ _ => rfl) ?_
        repeat walk_at "e"
        refine ⟨_, _, _, sqd_own (i := 1) rfl, rfl, atI_nat hrd, ?_⟩
        repeat walk_at "e"
        refine ⟨_, _, _, sqd_t, rfl, rfl, ?_⟩
        repeat walk_at "e"
        refine rd_I0 ?_
        refine de_cO G1 hr (by decide) rfl (by decide) rfl rfl ?_
        repeat walk_at "e"
        refine ⟨[(p, m3)], [(rp, .lst ((out.map lIn).map LIn.d))], List.Perm.refl _, p, m3, _, b + 37, rfl, by decide, by decide, rfl, hp3, fun r2 m4 b1 b2 hp4 => ?_⟩
        refine rd_I0 ?_
        walk_at "e"
        refine de_ix (fun _ _ => rfl) ?_
        refine de_ix (fun _ _ => rfl) ?_
        repeat walk_at "e"
        refine ⟨_, _, _, sqd_own (i := 1) rfl, rfl, atI_nat hrd, ?_⟩
        repeat walk_at "e"
        refine ⟨_, _, _, sqd_t, rfl, rfl, ?_⟩
        repeat walk_at "e"
        refine ⟨sz rfl, ?_⟩
        refine dg_sub set_list (by intro _; rfl) ?_
        repeat walk_at "e"
        have hix : ixN ((out.map lIn).map LIn.d).length (rn : Int) = some rn := by
          rw [List.length_map, List.length_map]
          unfold ixN
          simp
          omega
        refine std_list (j := 1) rfl hix ?_
        have es : ((out.map lIn).map LIn.d).set rn (.tup [.int (r.1 - 1 - r2), .tup (r.2.map D.int)]) = ((out.map lIn).set rn (lIn (r.1 - 1 - r2, r.2))).map LIn.d := by rw [List.map_set]; rfl
        rw [es]
        walk_at "e"
        refine dss_fz 1 7 rfl rfl rfl ?_
        refine last _ m4 _ (by simp; omega) (fun l hl => ?_) (hp4.mono (by omega)) rp
        rcases List.mem_or_eq_of_mem_set hl with h | rfl
        · exact hls l h
        · exact lIn_ok ⟨(hok r (List.mem_of_getElem? hrn)).len, (hok r (List.mem_of_getElem? hrn)).ok⟩
      · refine iF (by simp [hw1]) ?_
        walk_at "e"
        refine dss_fz 0 7 rfl rfl rfl ?_
        exact last _ m2 _ (by simp; omega) hls (hp2.mono (by omega)) rp
end
end
section
/-! ### sum, difference, made -/
def fsSum : FS := fun ds O post => ∃ (k : Nat) (s : Int) (rs1 rs2 : List WRow) (N : Int), ds = [lawD k s rs1, lawD k s rs2] ∧ 1 ≤ k ∧ k ≤ 3 ∧ rs1.length ≤ 50 ∧ rs2.length ≤ 50 ∧ (∀ r ∈ rs1, LOk k N r) ∧ (∀ r ∈ rs2, LOk k N r) ∧ O = [] ∧ ∀ out, GM posL (rs1 ++ rs2) out → post (lawD k s out) []
abbrev sSum : Stmt := topS 57
theorem scSum : FnScope ["_law_one", "_law_other"] ["_law_one", "_law_other"] (defScope sSum) := ⟨rfl, rfl, rfl, by decide +kernel, rfl, by decide +kernel, by decide +kernel⟩
def negR (r : WRow) : WRow := (-r.1, r.2)
def fsDiff : FS := fun ds O post => ∃ (k : Nat) (s : Int) (rs1 rs2 : List WRow) (N : Int), ds = [lawD k s rs1, lawD k s rs2] ∧ 1 ≤ k ∧ k ≤ 3 ∧ rs1.length ≤ 50 ∧ rs2.length ≤ 50 ∧ (∀ r ∈ rs1, LOk k N r) ∧ (∀ r ∈ rs2, LOk k N r) ∧ O = [] ∧ ∀ out, GM posL (rs1 ++ rs2.map negR) out → post (lawD k s out) []
abbrev sDiff : Stmt := topS 61
theorem scDiff : FnScope ["_law_one", "_law_other", "_law_rows", "_law_weight", "_law_numbers_here"] ["_law_one", "_law_other"] (defScope sDiff) := ⟨rfl, rfl, rfl, by decide +kernel, rfl, by decide +kernel, by decide +kernel⟩
/-- a row of the law as the program keeps it -/
def redS (s n : Int) : Int × Int := (n / Int.gcd n s, s / Int.gcd n s)
def redW (s : Int) (r : WRow) : Row := (r.1, r.2.map (redS s))
theorem redS_ok {s n : Int} (hs : 0 < s) (hs2 : s ≤ 1000) (h0 : 0 ≤ n) (h1 : n ≤ 1000) : 0 ≤ (redS s n).1 ∧ (redS s n).1 ≤ 1000 ∧ 0 < (redS s n).2 ∧ (redS s n).2 ≤ 1000 ∧ Int.gcd (redS s n).1 (redS s n).2 = 1 ∧ (redS s n).2 ∣ s := by
  unfold redS
  have hg : 0 < Int.gcd n s := Int.gcd_pos_of_ne_zero_right n (by omega)
  have hg1 : (0 : Int) < Int.gcd n s := by exact_mod_cast hg
  obtain ⟨a, ha⟩ := Int.gcd_dvd_left n s
  obtain ⟨b, hb⟩ := Int.gcd_dvd_right n s
  have ea : n / (Int.gcd n s : Int) = a := by
    conv => lhs; lhs; rw [ha]
    exact Int.mul_ediv_cancel_left _ (by omega)
  have eb : s / (Int.gcd n s : Int) = b := by
    conv => lhs; lhs; rw [hb]
    exact Int.mul_ediv_cancel_left _ (by omega)
  have hle : n / (Int.gcd n s : Int) ≤ n := Int.ediv_le_self _ h0
  have hle2 : s / (Int.gcd n s : Int) ≤ s := Int.ediv_le_self _ (by omega)
  refine ⟨Int.ediv_nonneg h0 (by omega), by omega, ?_, by omega, Int.gcd_ediv_gcd_ediv_gcd hg, ?_⟩
  · exact Int.ediv_pos_of_pos_of_dvd hs (by omega) (Int.gcd_dvd_right n s)
  · rw [eb]
    exact ⟨(Int.gcd n s : Int), by rw [Int.mul_comm]; exact hb⟩
def fsMade (C : Addr) : FS := fun ds O post => ∃ (p : Addr) (m : MO) (k : Nat) (s : Int) (rs : List WRow) (b : Nat), ds = [.raw (.ref p), lawD k s rs] ∧ 1 ≤ k ∧ k ≤ 3 ∧ 0 < s ∧ s ≤ 1000 ∧ rs.length ≤ 10 ∧ (∀ r ∈ rs, LOk k 100 r) ∧ O = [(p, m)] ∧ PenOk (b + 120) m ∧
  ∀ out m', IsMerge (rs.map (redW s)) out → PenOk b m' → post (bidsD C k out) [(p, m')]
abbrev sMade : Stmt := topS 56
theorem scMade : FnScope ["_law_pen_here", "_law_bids", "_law_rows", "_law_weight", "_law_numbers_here", "_law_passed_here", "_law_part", "_law_number"] ["_law_pen_here", "_law_bids"] (defScope sMade) := ⟨rfl, rfl, rfl, by decide +kernel, rfl, by decide +kernel, by decide +kernel⟩
section
variable {P : Program} {w : World} {K : PySem.W.Frag} {mg : Str → Option Value} {base : Heap} {f : Addr} {fd : FuncData}
theorem ok_sum (F : FnP K "_law_sum" sSum f fd) (B : Bn mg) (G : GMerged P w K mg base) : FnOk P w K mg base CX0 2 f fd ["_law_one", "_law_other"] (spD P w fsSum) := by
  refine fokX F scSum (fun ds O post h => ?_) (fun cdv A outer s H E ds O post hr h => ?_)
  · obtain ⟨a, b, c, d, e, rfl, _⟩ := h; rfl
  · obtain ⟨k, sc, rs1, rs2, N, rfl, hk1, hk3, hl1, hl2, ho1, ho2, rfl, kk⟩ := h
    have hN := scSum.nd
    have hu1 := room1 hr
    walk_at "e"
    walk_at "e"
    refine de_c0 G hr (by decide) rfl (by decide) rfl rfl ?_
    walk_at "e"
    refine de_ixK hu1 (fun _ _ => rfl) ?_
    repeat walk_at "e"
    refine ⟨lawKs, _, .inr "kinds", _, .inl rfl, rfl, lawL1, ?_⟩
    walk_at "e"
    refine de_ixK hu1 (fun _ _ => rfl) ?_
    repeat walk_at "e"
    refine ⟨lawKs, _, .inr "scale", _, .inl rfl, rfl, lawL2, ?_⟩
    walk_at "e"
    refine de_op op_cat ?_
    walk_at "listof"
    walk_at "e"
    refine de_ixK hu1 (fun _ _ => rfl) ?_
    repeat walk_at "e"
    refine ⟨lawKs, _, .inr "rows", _, .inl rfl, rfl, lawL3, ?_⟩
    walk_at "e"
    refine rc_lst sqd_l ?_
    walk_at "listof"
    walk_at "e"
    refine de_ixK hu1 (fun _ _ => rfl) ?_
    repeat walk_at "e"
    refine ⟨lawKs, _, .inr "rows", _, .inl rfl, rfl, lawL3, ?_⟩
    walk_at "e"
    refine rc_lst sqd_l ?_
    refine rd_cat (.inl rfl) (.inl rfl) (sz1000 (by rw [List.length_map, List.length_map]; omega)) ?_
    walk_at "e"
    have e : rs1.map lrowD ++ rs2.map lrowD = ((rs1 ++ rs2).map lIn).map LIn.d := by rw [← List.map_append, lIn_d]
    rw [e]
    refine ⟨k, sc, _, N, rfl, hk1, hk3, by rw [List.length_map, List.length_append]; omega, fun l hl => ?_, rfl, fun out hout => ?_⟩
    · obtain ⟨r, hr, rfl⟩ := List.mem_map.mp hl
      exact lIn_ok ((List.mem_append.mp hr).elim (ho1 r) (ho2 r))
    · rw [lIn_r] at hout
      exact kk out hout
theorem ok_diff (F : FnP K "_law_difference" sDiff f fd) (B : Bn mg) (G : GMerged P w K mg base) : FnOk P w K mg base CX0 2 f fd ["_law_one", "_law_other"] (spD P w fsDiff) := by
  refine fokX F scDiff (fun ds O post h => ?_) (fun cdv A outer s H E ds O post hr h => ?_)
  · obtain ⟨a, b, c, d, e, rfl, _⟩ := h; rfl
  · obtain ⟨k, sc, rs1, rs2, N, rfl, hk1, hk3, hl1, hl2, ho1, ho2, rfl, kk⟩ := h
    have hN := scDiff.nd
    have hu1 := room1 hr
    walk_at "e"
    refine ds_st hN rfl (.inl rfl) rfl (.inr rfl) ?_
    refine de_op op_cat ?_
    walk_at "listof"
    walk_at "e"
    refine de_ixK hu1 (fun _ _ => rfl) ?_
    repeat walk_at "e"
    refine ⟨lawKs, _, .inr "rows", _, .inl rfl, rfl, lawL3, ?_⟩
    walk_at "e"
    refine rc_lst sqd_l ?_
    refine de_lc (Oz := []) (own := [("_law_weight", 3), ("_law_numbers_here", 4)]) rfl hN (blkOk_by (by kernel_rfl)) (by decide) (by intro _; rfl) (di_lst ?_)
    refine de_ixK hu1 (fun _ _ => rfl) ?_
    repeat walk_at "e"
    refine ⟨lawKs, _, .inr "rows", _, .inl rfl, rfl, lawL3, _, rfl, lcd_map rs2 lrowD (fun r => lrowD (negR r)) (sz1000 (by omega)) rfl (fun r hr => ?_) ?_⟩
    · intro _ _ _ _ _
      unfold lrowD
      repeat walk_at "e"
      intro _ _ _ _ _
      repeat walk_at "e"
      refine de_neg ?_
      repeat walk_at "e"
      refine ⟨_, rfl, ?_⟩
      repeat walk_at "e"
      exact ⟨sz rfl, rfl, rfl⟩
    refine rd_cat (.inl rfl) (.inl rfl) (sz1000 (by rw [List.length_map, List.length_map]; omega)) ?_
    walk_at "e"
    walk_at "e"
    refine de_c0 G hr (by decide) rfl (by decide) rfl rfl ?_
    walk_at "e"
    refine de_ixK hu1 (fun _ _ => rfl) ?_
    repeat walk_at "e"
    refine ⟨lawKs, _, .inr "kinds", _, .inl rfl, rfl, lawL1, ?_⟩
    walk_at "e"
    refine de_ixK hu1 (fun _ _ => rfl) ?_
    repeat walk_at "e"
    refine ⟨lawKs, _, .inr "scale", _, .inl rfl, rfl, lawL2, ?_⟩
    repeat walk_at "e"
    have e : rs1.map lrowD ++ rs2.map (fun r => lrowD (negR r)) = ((rs1 ++ rs2.map negR).map lIn).map LIn.d := by rw [← lIn_d, List.map_append, List.map_map]; rfl
    rw [e]
    refine ⟨k, sc, _, N, rfl, hk1, hk3, by rw [List.length_map, List.length_append, List.length_map]; omega, fun l hl => ?_, rfl, fun out hout => ?_⟩
    · obtain ⟨r, hr, rfl⟩ := List.mem_map.mp hl
      rcases List.mem_append.mp hr with h | h
      · exact lIn_ok (ho1 r h)
      · obtain ⟨q, hq, rfl⟩ := List.mem_map.mp h
        exact lIn_ok ⟨(ho2 q hq).len, (ho2 q hq).ok⟩
    · rw [lIn_r] at hout
      exact kk out hout
end
end
section
/-! ### made -/
theorem tot_app (R S : List Row) (x : PKey) : tot (R ++ S) x = tot R x + tot S x := by
  unfold tot
  rw [List.filter_append, List.map_append, List.sum_append]
theorem tot_one (a : Int) (y x : PKey) : tot [(a, y)] x = if y = x then a else 0 := by
  unfold tot
  by_cases h : y = x
  · simp [h]
  · simp [h]
theorem isMerge_congr {R S out : List Row} (h : ∀ x, tot R x = tot S x) (hm : IsMerge R out) : IsMerge S out := ⟨hm.nd, fun r => by rw [hm.mem r, h]⟩
theorem redW_w {s : Int} {a : Int} {ns : List Int} : redW s (a, ns) = (a, ns.map (redS s)) := rfl
section
variable {X : Cx} {st : Stmt} {ρ : Env'} {O : Own}
theorem ds_nx {p : Post} {M : Env' → Own → Prop} (h : DS X st ρ O { p with nx := M }) (k : ∀ ρ O, M ρ O → p.nx ρ O) : DS X st ρ O p :=
  ds_of h fun Dn σ H ⟨I, s, h1, h2, h3, h4⟩ => ⟨I, s, h1.step (Grow.refl s.sub) k, h2, h3, h4⟩
end
section
variable {P : Program} {w : World} {K : PySem.W.Frag} {mg : Str → Option Value} {base : Heap} {f : Addr} {fd : FuncData}
theorem ok_made {C : Addr} (F : FnP K "_law_made" sMade f fd) (B : Bn mg) (G1 : GDraw P w K mg base) (G2 : Std P w K mg base 2 "_law_q" ["_law_top", "_law_bottom"] fsQ) (G3 : Std P w K mg base 3 "_law_passed" ["_law_pen_here", "_law_ratio"] fsPassed) (G4 : StdMk P w K mg base 6 "Bids" C ["self", "kinds", "rows"] (fsInit C)) :
    FnOk P w K mg base CX0 8 f fd ["_law_pen_here", "_law_bids"] (spD P w (fsMade C)) := by
  refine fokX F scMade (fun ds O post h => ?_) (fun cdv A outer s H E ds O post hr h => ?_)
  · obtain ⟨a, b, c, d, e, g, rfl, _⟩ := h; rfl
  · obtain ⟨p, m, k, sc, rs, b, rfl, hk1, hk3, hs0, hs1, hrl, hrs, rfl, hp, kk⟩ := h
    have hN := scMade.nd
    have hu1 := room1 hr
    walk_at "e"
    refine ds_st hN rfl (.inl rfl) rfl (.inr rfl) ?_
    refine de_lst ?_
    repeat walk_at "e"
    refine ⟨sz rfl, ?_⟩
    walk_at "e"
    refine ds_for .never rfl (by intro _; rfl) (ts := [3, 4]) (di_lst ?_)
    refine de_ixK hu1 (fun _ _ => rfl) ?_
    repeat walk_at "e"
    refine ⟨lawKs, _, .inr "rows", _, .inl rfl, rfl, lawL3, _, rfl, ?_⟩
    refine ⟨fun i ρ O => i ≤ rs.length ∧ ∃ (o1 o2 o3 o4 : Option D) (ls : List RowIn) (m' : MO), ρ = [some (.raw (.ref p)), some (lawD k sc rs), some (.lst (ls.map RowIn.d)), o1, o2, o3, o4, none] ∧ O = [(p, m')] ∧ ls.length ≤ 2 * i ∧ (∀ l ∈ ls, RowOk k sc l) ∧ (∀ x, tot (ls.map redR) x = tot ((rs.take i).map (redW sc)) x) ∧ PenOk (b + (rs.length - i) * 12) m',
      ⟨Nat.zero_le _, _, _, _, _, [], m, rfl, rfl, by simp, by simp, fun x => rfl, hp.mono (by omega)⟩, fun i d ρ O hd ⟨hi, o1, o2, o3, o4, ls, m', e1, e2, e3, e4, e5, e6⟩ => ?_, fun ρ O ⟨hi, o1, o2, o3, o4, ls, m', e1, e2, e3, e4, e5, e6⟩ => ?_⟩
    · subst e1 e2
      obtain ⟨r, hri, rfl⟩ := map_get hd
      obtain ⟨hlt, _⟩ := List.getElem?_eq_some_iff.mp hri
      have hro := hrs r (List.mem_of_getElem? hri)
      have hp0 : PenOk (b + (rs.length - (i + 1)) * 12 + 3 + 9) m' := e6.mono (by omega)
      unfold lrowD
      repeat walk_at "e"
      refine ds_setLcO (Oz := []) (i := 5) (own := [("_law_number", 7)]) rfl hN rfl rfl rfl (blkOk_by (by kernel_rfl)) (by decide) (by intro _; rfl) (di_tup ?_)
      repeat walk_at "e"
      refine ⟨_, rfl, ?_⟩
      refine ⟨fun j acc O' => j ≤ r.2.length ∧ ∃ (zs : List NumIn) (m2 : MO), acc = zs.map (·.1) ∧ zs.map redN = (r.2.take j).map (redS sc) ∧ (∀ z ∈ zs, NumOk sc z) ∧ O' = [(p, m2)] ∧ PenOk (b + (rs.length - (i + 1)) * 12 + 3 + (3 - j) * 3) m2,
        ⟨Nat.zero_le _, [], m', rfl, rfl, by simp, rfl, hp0⟩, fun j d acc O' hd ⟨hj, zs, m2, f1, f2, f3, f4, f5⟩ => ?_, fun _ _ _ _ q hq => (nomatch hq), fun acc O' ⟨hj, zs, m2, f1, f2, f3, f4, f5⟩ => ?_⟩
      · subst f1 f4
        obtain ⟨n, hnj, rfl⟩ := map_get hd
        obtain ⟨hlt2, _⟩ := List.getElem?_eq_some_iff.mp hnj
        have hlen := hro.len
        have hzl : zs.length = j := by
          have := congrArg List.length f2
          simp at this
          omega
        obtain ⟨hn0, hn1⟩ := hro.ok n (List.mem_of_getElem? hnj)
        have hp1 : PenOk (b + (rs.length - (i + 1)) * 12 + 3 + (3 - (j + 1)) * 3 + 3) m2 := f5.mono (by omega)
        intro _ _ _ _ _
        repeat walk_at "e"
        intro _ _ _ _ _
        refine de_cO G3 hr (by decide) rfl (by decide) rfl rfl ?_
        repeat walk_at "e"
        refine de_c0 G2 hr (by decide) rfl (by decide) rfl rfl ?_
        repeat walk_at "e"
        refine de_ixK hu1 (fun _ _ => rfl) ?_
        repeat walk_at "e"
        refine ⟨lawKs, _, .inr "scale", _, .inl rfl, rfl, lawL2, ?_⟩
        repeat walk_at "e"
        refine ⟨n, sc, rfl, hs0, by omega, rfl, ?_⟩
        repeat walk_at "e"
        obtain ⟨q1, q2, q3, q4, q5, q6⟩ := redS_ok (n := n) hs0 hs1 hn0 (by omega)
        refine ⟨[(p, m2)], [], List.Perm.refl _, p, m2, redS sc n, sc, _, rfl, q1, q2, q3, q4, q5, q6, rfl, hp1, fun z m3 hz hz2 hp2 => ?_⟩
        refine ⟨by rw [List.length_map, hzl]; exact Nat.lt_of_lt_of_le (show j < 1000 by omega) (by decide), hlt2, zs ++ [z], m3, by simp, ?_, fun y hy => ?_, rfl, hp2⟩
        · rw [List.map_append, f2, List.take_add_one, hnj]
          simp [hz2]
        · rcases List.mem_append.mp hy with h | h
          · exact f3 y h
          · simp at h; subst h; exact hz
      · subst f1 f4
        rw [List.length_map, List.take_length] at f2
        intro q
        refine dss_fz 0 5 rfl rfl rfl ?_
        have hp1 : PenOk (b + (rs.length - (i + 1)) * 12 + 3) m2 := f5.mono (by omega)
        have nin : ∀ (a : Int) (tl : D → Prop), True := fun _ _ => trivial
        have hT : ∀ (d : D) (a : Int) (dn : D), (d = .lst [.int a, dn] ∨ d = .tup [.int a, dn]) → (dn = .lst (zs.map (·.1)) ∨ dn = .tup (zs.map (·.1))) → RowOk k sc ⟨d, a, dn, zs⟩ := fun d a dn h1 h2 => ⟨h1, h2, by
          have := congrArg List.length f2
          simp at this
          have := hro.len
          show zs.length = k
          omega, f3⟩
        have hR : ∀ (d : D) (a : Int) (dn : D), redR ⟨d, a, dn, zs⟩ = redW sc (a, r.2) := fun d a dn => by
          show (a, zs.map redN) = _
          rw [f2]; rfl
        have hzl : zs.length ≤ 3 := by
          have := congrArg List.length f2
          simp at this
          have := hro.len
          omega
        refine dss_cons (ds_nx (M := fun ρ O => ∃ (ls2 : List RowIn) (a : Int) (o : Option D) (m3 : MO), ρ = [some (.raw (.ref p)), some (lawD k sc rs), some (.lst (ls2.map RowIn.d)), some (.int a), some (.tup (r.2.map D.int)), some (.lst (zs.map (·.1))), o, none] ∧ O = [(p, m3)] ∧
          ls2.length ≤ 2 * i + 1 ∧ (∀ l ∈ ls2, RowOk k sc l) ∧ (∀ x, tot (ls2.map redR) x + tot [redW sc (a, r.2)] x = tot (((rs.take i).map (redW sc)) ++ [redW sc r]) x) ∧ PenOk (b + (rs.length - (i + 1)) * 12 + 1) m3) ?_ (fun ρ O ⟨ls2, a, o, m3, g1, g2, g3, g4, g5, g6⟩ => ?_))
        · refine ds_if ?_
          refine dt_cmpR op_eq (nomark _) ?_
          refine de_cO G1 hr (by decide) rfl (by decide) rfl rfl ?_
          repeat walk_at "e"
          refine ⟨[(p, m2)], [], List.Perm.refl _, p, m2, _, _, rfl, by decide, by decide, rfl, hp1, fun d1 m3 a1 a2 hp2 => ?_⟩
          repeat walk_at "e"
          refine rd_eqI ⟨_, rfl, ?_⟩
          by_cases hd1 : d1 = 0
          · refine iT (by simp [hd1]) ?_
            walk_at "e"
            refine ds_st hN rfl (.inl rfl) rfl (.inr rfl) ?_
            refine de_op op_sub ?_
            refine de_cO G1 hr (by decide) rfl (by decide) rfl rfl ?_
            repeat walk_at "e"
            refine ⟨[(p, m3)], [], List.Perm.refl _, p, m3, _, _, rfl, by decide, by decide, rfl, hp2, fun d2 m4 b1 b2 hp3 => ?_⟩
            walk_at "e"
            refine rd_I0 ?_
            walk_at "e"
            refine ds_st hN rfl (.inl rfl) rfl (.inr rfl) ?_
            refine de_op op_cat ?_
            repeat walk_at "e"
            refine de_lst ?_
            repeat walk_at "e"
            refine ⟨sz rfl, ?_⟩
            repeat walk_at "e"
            refine ⟨sz rfl, rd_cat (.inl rfl) (.inl rfl) (sz1000 (by rw [List.length_map]; simp; omega)) ?_⟩
            walk_at "e"
            refine ds_st hN rfl (.inl rfl) rfl (.inr rfl) ?_
            refine de_op op_sub ?_
            repeat walk_at "e"
            refine rd_I0 ?_
            repeat walk_at "e"
            refine ⟨ls ++ [⟨.tup [.int (d2 - 4), .lst (zs.map (·.1))], d2 - 4, .lst (zs.map (·.1)), zs⟩], r.1 - (d2 - 4), _, m4, by rw [List.map_append]; rfl, rfl, by simp; omega, fun l hl => ?_, fun x => ?_, hp3⟩
            · rcases List.mem_append.mp hl with h | h
              · exact e4 l h
              · simp at h; subst h
                exact hT _ _ _ (.inr rfl) (.inl rfl)
            · rw [List.map_append, tot_app, e5, List.map_singleton, hR, redW_w, redW_w, tot_app, tot_one, tot_one]
              show _ = _ + tot [(r.1, r.2.map (redS sc))] x
              rw [tot_one]
              split <;> omega
          · refine iF (by simp [hd1]) ?_
            repeat walk_at "e"
            exact ⟨ls, r.1, _, m3, rfl, rfl, by omega, e4, fun x => by rw [tot_app, e5], hp2.mono (by omega)⟩
        · subst g1 g2
          walk_at "e"
          refine ds_st hN rfl (.inl rfl) rfl (.inr rfl) ?_
          refine de_if ?_
          refine dt_cmpR op_eq (nomark _) ?_
          refine de_cO G1 hr (by decide) rfl (by decide) rfl rfl ?_
          repeat walk_at "e"
          refine ⟨[(p, m3)], [], List.Perm.refl _, p, m3, _, _, rfl, by decide, by decide, rfl, g6, fun d1 m4 a1 a2 hp2 => ?_⟩
          repeat walk_at "e"
          refine rd_eqI ⟨_, rfl, ?_⟩
          by_cases hd1 : d1 = 0
          · refine iT (by simp [hd1]) ?_
            refine de_op op_cat ?_
            refine de_lst ?_
            repeat walk_at "e"
            walk_at "tupof"
            repeat walk_at "e"
            refine rc_tup sqd_l ?_
            repeat walk_at "e"
            refine ⟨sz rfl, ?_⟩
            repeat walk_at "e"
            refine ⟨sz rfl, ?_⟩
            repeat walk_at "e"
            refine rd_cat (.inl rfl) (.inl rfl) (sz1000 (by rw [List.length_map]; simp; omega)) ?_
            repeat walk_at "e"
            refine ⟨hlt, _, _, _, _, ⟨.tup [.int a, .tup (zs.map (·.1))], a, .tup (zs.map (·.1)), zs⟩ :: ls2, m4, rfl, rfl, by simp; omega, fun l hl => ?_, fun x => ?_, hp2⟩
            · rcases List.mem_cons.mp hl with rfl | h
              · exact hT _ _ _ (.inr rfl) (.inr rfl)
              · exact g4 l h
            · rw [List.take_add_one, hri, List.map_cons, List.map_append, hR, ← List.singleton_append, tot_app]
              have := g5 x
              show _ = tot (List.map (redW sc) (List.take i rs) ++ [redW sc r]) x
              omega
          · refine iF (by simp [hd1]) ?_
            refine de_op op_cat ?_
            repeat walk_at "e"
            refine de_lst ?_
            repeat walk_at "e"
            refine de_lst ?_
            repeat walk_at "e"
            refine ⟨sz rfl, ?_⟩
            repeat walk_at "e"
            refine ⟨sz rfl, rd_cat (.inl rfl) (.inl rfl) (sz1000 (by rw [List.length_map]; simp; omega)) ?_⟩
            repeat walk_at "e"
            refine ⟨hlt, _, _, _, _, ls2 ++ [⟨.lst [.int a, .lst (zs.map (·.1))], a, .lst (zs.map (·.1)), zs⟩], m4, by rw [List.map_append]; rfl, rfl, by simp; omega, fun l hl => ?_, fun x => ?_, hp2⟩
            · rcases List.mem_append.mp hl with h | h
              · exact g4 l h
              · simp at h; subst h
                exact hT _ _ _ (.inl rfl) (.inl rfl)
            · rw [List.take_add_one, hri, List.map_append, List.map_append, List.map_singleton, hR, tot_app]
              exact g5 x
    · subst e1 e2
      rw [List.length_map] at e5 e6
      rw [List.take_length] at e5
      walk_at "e"
      walk_at "e"
      refine de_fz (i := 0) ?_
      refine de_make G4 hr (by decide) rfl (by decide) rfl rfl ?_
      walk_at "e"
      refine de_ixK hu1 (fun _ _ => rfl) ?_
      repeat walk_at "e"
      refine ⟨lawKs, _, .inr "kinds", _, .inl rfl, rfl, lawL1, ?_⟩
      repeat walk_at "e"
      intro q
      refine ⟨q, k, _, ls, sc, rfl, .inl rfl, hk1, hk3, hs0, hs1, by omega, e4, rfl, fun out hout => ⟨rfl, q, _, rfl, rfl, rfl, ?_⟩⟩
      exact kk out m' (isMerge_congr e5 hout) (e6.mono (by omega))
end
end
section
/-! ### planes -/
inductive Pl where
  | at_ (i : Nat) (n : Int)
  | as_ (i j : Nat) (d : Int)
deriving DecidableEq
def plK : Pl → NestedKey
  | .at_ i n => .tup [.text "at", .num (i : Int), .num n]
  | .as_ i j d => .tup [.text "as", .num (i : Int), .num (j : Int), .num d]
def plD : Pl → D
  | .at_ i n => .tup [.str "at", .int (i : Int), .int n]
  | .as_ i j d => .tup [.str "as", .int (i : Int), .int (j : Int), .int d]
theorem plK_inj : ∀ x y : Pl, plK x = plK y → x = y
  | .at_ i n, .at_ i' n', h => by simp [plK] at h; simp; omega
  | .as_ i j d, .as_ i' j' d', h => by simp [plK] at h; simp; omega
  | .at_ i n, .as_ i' j' d', h => by simp [plK] at h
  | .as_ i j d, .at_ i' n', h => by simp [plK] at h
theorem kD_pl (x : Pl) : kD (plK x) = plD x := by cases x <;> rfl
theorem plK_depth (x : Pl) : (plK x).depth ≤ 8 := by cases x <;> simp [plK, NestedKey.depth, NestedKey.depthAll]
theorem plK_tup (x : Pl) : ∃ l, plK x = .tup l := by cases x <;> exact ⟨_, rfl⟩
/-- x is a plane of the numbers ns -/
def PlR (ns : List Int) : Pl → Prop
  | .at_ i n => ns[i]? = some n ∧ 0 < n
  | .as_ i j d => i < j ∧ ∃ a b, ns[i]? = some a ∧ ns[j]? = some b ∧ 0 < a ∧ 0 < b ∧ d = a - b
def plI : Pl → Nat
  | .at_ i _ => i
  | .as_ i _ _ => i
theorem PlR.lt {ns : List Int} {x : Pl} (h : PlR ns x) : plI x < ns.length := by
  cases x with
  | at_ i n => exact (List.getElem?_eq_some_iff.mp h.1).1
  | as_ i j d => obtain ⟨_, a, b, h1, _⟩ := h; exact (List.getElem?_eq_some_iff.mp h1).1
def IsPl (rs : List WRow) (x : Pl) : Prop := ∃ r ∈ rs, PlR r.2 x
def fsPlanes : FS := fun ds O post => ∃ (k : Nat) (s : Int) (rs : List WRow), ds = [lawD k s rs] ∧ 1 ≤ k ∧ k ≤ 3 ∧ rs.length ≤ 50 ∧ (∀ r ∈ rs, LOk k 100 r) ∧ O = [] ∧ ∀ ps : List Pl, (∀ x, x ∈ ps ↔ IsPl rs x) → ps.length ≤ 9 * rs.length → post (.lst (ps.map plD)) []
abbrev sPlanes : Stmt := topS 58
theorem scPlanes : FnScope ["_law_bids", "_law_found", "_law_w", "_law_numbers_here", "_law_i", "_law_j"] ["_law_bids"] (defScope sPlanes) := ⟨rfl, rfl, rfl, by decide +kernel, rfl, by decide +kernel, by decide +kernel⟩
def plM (ls : List Pl) : MO := .dN (ls.map plK) (ls.map fun _ => .bl true)
theorem plM_put (ls : List Pl) (x : Pl) : MO.dN (kPutK (ls.map plK) (plK x)) (kPutV (ls.map plK) (ls.map fun _ => D.bl true) (plK x) (.bl true)) = plM (putG ls x) :=
  dn_putG (f := plK) plK_inj (g := fun _ => D.bl true) (g' := fun _ => D.bl true) (fun _ _ _ => rfl)
section
variable {P : Program} {w : World} {K : PySem.W.Frag} {mg : Str → Option Value} {base : Heap} {f : Addr} {fd : FuncData}
theorem ok_planes (F : FnP K "_law_planes" sPlanes f fd) (B : Bn mg) : FnOk P w K mg base CX0 1 f fd ["_law_bids"] (spD P w fsPlanes) := by
  refine fokX F scPlanes (fun ds O post h => ?_) (fun cdv A outer s H E ds O post hr h => ?_)
  · obtain ⟨a, b, c, rfl, _⟩ := h; rfl
  · obtain ⟨k, sc, rs, rfl, hk1, hk3, hrl, hrs, rfl, kk⟩ := h
    have hN := scPlanes.nd
    have hu1 := room1 hr
    have hu9 := room9 hr
    walk_at "e"
    refine ds_st hN rfl (.inl rfl) rfl (.inr rfl) ?_
    refine de_dnewN fun fp => ?_
    walk_at "e"
    refine ds_for .never rfl (by intro _; rfl) (ts := [2, 3]) (di_lst ?_)
    refine de_ixK hu1 (fun _ _ => rfl) ?_
    repeat walk_at "e"
    refine ⟨lawKs, _, .inr "rows", _, .inl rfl, rfl, lawL3, _, rfl, ?_⟩
    refine ⟨fun t ρ O => t ≤ rs.length ∧ ∃ (o1 o2 o3 o4 : Option D) (ls : List Pl), ρ = [some (lawD k sc rs), some (rawA fp), o1, o2, o3, o4] ∧ O = [(fp, plM ls)] ∧ ls.Nodup ∧ ls.length ≤ 9 * t ∧ ∀ x, x ∈ ls ↔ IsPl (rs.take t) x,
      ⟨Nat.zero_le _, _, _, _, _, [], rfl, rfl, List.nodup_nil, Nat.le_refl _, fun x => by simp [IsPl]⟩, fun t d ρ O hd ⟨ht, o1, o2, o3, o4, ls, e1, e2, e3, e4, e5⟩ => ?_, fun ρ O ⟨ht, o1, o2, o3, o4, ls, e1, e2, e3, e4, e5⟩ => ?_⟩
    · subst e1 e2
      obtain ⟨r, hri, rfl⟩ := map_get hd
      obtain ⟨hlt, _⟩ := List.getElem?_eq_some_iff.mp hri
      have hro := hrs r (List.mem_of_getElem? hri)
      have hlen := hro.len
      unfold lrowD
      repeat walk_at "e"
      refine ds_for .never rfl (by intro _; rfl) (ts := [4]) ?_
      walk_at "rng1"
      walk_at "e"
      refine de_ixK hu1 (fun _ _ => rfl) ?_
      repeat walk_at "e"
      refine ⟨lawKs, _, .inr "kinds", _, .inl rfl, rfl, lawL1, ?_⟩
      walk_at "e"
      refine ⟨_, rfl, by omega, by omega, ?_⟩
      rw [Int.toNat_natCast]
      refine ⟨fun i ρ O => i ≤ k ∧ ∃ (o3 o4 : Option D) (ls : List Pl), ρ = [some (lawD k sc rs), some (rawA fp), some (.int r.1), some (.tup (r.2.map D.int)), o3, o4] ∧ O = [(fp, plM ls)] ∧ ls.Nodup ∧ ls.length ≤ 9 * t + 3 * i ∧ ∀ x, x ∈ ls ↔ IsPl (rs.take t) x ∨ PlR r.2 x ∧ plI x < i,
        ⟨Nat.zero_le _, _, _, ls, rfl, rfl, e3, by omega, fun x => by rw [e5]; simp⟩, fun i d ρ O hd ⟨hi, o3, o4, ls, e1, e2, e3, e4, e5⟩ => ?_, fun ρ O ⟨hi, o3, o4, ls, e1, e2, e3, e4, e5⟩ => ?_⟩
      · subst e1 e2
        obtain ⟨hlt2, rfl⟩ := rngD_get hd
        rw [Int.zero_add]
        obtain ⟨n, hn⟩ : ∃ n, r.2[i]? = some n := ⟨_, List.getElem?_eq_getElem (by omega)⟩
        have hnd : (r.2.map D.int)[i]? = some (.int n) := map_at hn
        repeat walk_at "e"
        refine dt_cmpR op_gt (nomark _) ?_
        refine de_ix (fun _ _ => rfl) ?_
        repeat walk_at "e"
        refine ⟨_, _, _, sqd_t, rfl, atI_nat hnd, ?_⟩
        repeat walk_at "e"
        refine rd_B0 ⟨_, rfl, ?_⟩
        by_cases hn0 : 0 < n
        · refine iT (decide_eq_true hn0) ?_
          walk_at "e"
          refine ds_asg (ts := []) ?_ rfl rfl rfl
          walk_at "e"
          refine dg_sub (set_nd hu9) (by intro _; rfl) ?_
          repeat walk_at "e"
          refine de_ix (fun _ _ => rfl) ?_
          repeat walk_at "e"
          refine ⟨_, _, _, sqd_t, rfl, atI_nat hnd, ?_⟩
          repeat walk_at "e"
          refine ⟨sz rfl, ?_⟩
          refine std_dn (ks := ls.map plK) (ds := ls.map fun _ => .bl true) (j := 0) (k := plK (.at_ i n)) (kD_pl (.at_ i n)).symm (plK_tup _) (plK_depth _) rfl ?_ ?_
          · rw [List.length_map]
            exact Nat.lt_of_lt_of_le (show _ < 1000 by omega) (by decide)
          rw [plM_put]
          walk_at "e"
          refine ds_for .never rfl (by intro _; rfl) (ts := [5]) ?_
          refine di_rng2 rfl B.range rfl rfl ?_
          walk_at "e"
          refine de_op op_add ?_
          repeat walk_at "e"
          refine rd_I0 ?_
          walk_at "e"
          refine de_ixK hu1 (fun _ _ => rfl) ?_
          repeat walk_at "e"
          refine ⟨lawKs, _, .inr "kinds", _, .inl rfl, rfl, lawL1, ?_⟩
          repeat walk_at "e"
          refine ⟨_, _, rfl, ⟨by omega, by omega, by omega, by omega⟩, ?_⟩
          have hl1 := putG_len ls (.at_ i n)
          have hcnt : ((k : Int) - ((i : Int) + 1)).toNat = k - (i + 1) := by omega
          rw [hcnt]
          refine ⟨fun j ρ O => j ≤ k - (i + 1) ∧ ∃ (o4 : Option D) (ls : List Pl), ρ = [some (lawD k sc rs), some (rawA fp), some (.int r.1), some (.tup (r.2.map D.int)), some (.int (i : Int)), o4] ∧ O = [(fp, plM ls)] ∧ ls.Nodup ∧ ls.length ≤ 9 * t + 3 * i + 1 + j ∧ ∀ x, x ∈ ls ↔ (IsPl (rs.take t) x ∨ PlR r.2 x ∧ plI x < i) ∨ x = .at_ i n ∨ PlR r.2 x ∧ ∃ jj d, x = .as_ i jj d ∧ jj < i + 1 + j,
            ⟨Nat.zero_le _, _, _, rfl, rfl, putG_nodup e3, by omega, fun x => ?_⟩, fun j d ρ O hd ⟨hj, o4, ls, e1, e2, e3, e4, e5⟩ => ?_, fun ρ O ⟨hj, o4, ls, e1, e2, e3, e4, e5⟩ => ?_⟩
          · rw [mem_putG, e5]
            constructor
            · rintro (h | h)
              · exact .inl h
              · exact .inr (.inl h)
            · rintro (h | h | ⟨h1, jj, d, rfl, h3⟩)
              · exact .inl h
              · exact .inr h
              · have h2 : i < jj := h1.1
                omega
          · subst e1 e2
            obtain ⟨hlt3, rfl⟩ := rngD_get hd
            have ej : (i : Int) + 1 + (j : Int) = ((i + 1 + j : Nat) : Int) := by omega
            rw [ej]
            generalize hjj : i + 1 + j = jj
            obtain ⟨n2, hn2⟩ : ∃ n2, r.2[jj]? = some n2 := ⟨_, List.getElem?_eq_getElem (by omega)⟩
            have hnd2 : (r.2.map D.int)[jj]? = some (.int n2) := map_at hn2
            repeat walk_at "e"
            refine dt_cmpR op_gt (nomark _) ?_
            refine de_ix (fun _ _ => rfl) ?_
            repeat walk_at "e"
            refine ⟨_, _, _, sqd_t, rfl, atI_nat hnd2, ?_⟩
            repeat walk_at "e"
            refine rd_B0 ⟨_, rfl, ?_⟩
            by_cases hn20 : 0 < n2
            · refine iT (decide_eq_true hn20) ?_
              walk_at "e"
              refine ds_asg (ts := []) ?_ rfl rfl rfl
              walk_at "e"
              refine dg_sub (set_nd hu9) (by intro _; rfl) ?_
              repeat walk_at "e"
              refine de_op op_sub ?_
              refine de_ix (fun _ _ => rfl) ?_
              repeat walk_at "e"
              refine ⟨_, _, _, sqd_t, rfl, atI_nat hnd, ?_⟩
              refine de_ix (fun _ _ => rfl) ?_
              repeat walk_at "e"
              refine ⟨_, _, _, sqd_t, rfl, atI_nat hnd2, ?_⟩
              refine rd_I0 ?_
              repeat walk_at "e"
              refine ⟨sz rfl, ?_⟩
              refine std_dn (ks := ls.map plK) (ds := ls.map fun _ => .bl true) (j := 0) (k := plK (.as_ i jj (n - n2))) (kD_pl (.as_ i jj (n - n2))).symm (plK_tup _) (plK_depth _) rfl ?_ ?_
              · rw [List.length_map]
                exact Nat.lt_of_lt_of_le (show _ < 1000 by omega) (by decide)
              rw [plM_put]
              repeat walk_at "e"
              have hl2 := putG_len ls (.as_ i jj (n - n2))
              refine ⟨hlt3, _, _, rfl, rfl, putG_nodup e3, by omega, fun x => ?_⟩
              rw [mem_putG, e5]
              constructor
              · rintro ((h | h | ⟨h1, jj', d, h2, h3⟩) | rfl)
                · exact .inl h
                · exact .inr (.inl h)
                · exact .inr (.inr ⟨h1, jj', d, h2, by omega⟩)
                · exact .inr (.inr ⟨⟨by omega, n, n2, hn, hn2, hn0, hn20, rfl⟩, _, _, rfl, by omega⟩)
              · rintro (h | h | ⟨h1, jj', d, rfl, h3⟩)
                · exact .inl (.inl h)
                · exact .inl (.inr (.inl h))
                · by_cases hjl : jj' < i + 1 + j
                  · exact .inl (.inr (.inr ⟨h1, _, _, rfl, hjl⟩))
                  · have : jj' = jj := by omega
                    subst this
                    obtain ⟨_, a, b, q1, q2, q3, q4, rfl⟩ := h1
                    rw [hn] at q1; rw [hn2] at q2
                    cases q1; cases q2
                    exact .inr rfl
            · refine iF (decide_eq_false hn20) ?_
              repeat walk_at "e"
              refine ⟨hlt3, _, _, rfl, rfl, e3, by omega, fun x => ?_⟩
              rw [e5]
              constructor
              · rintro (h | h | ⟨h1, jj', d, h2, h3⟩)
                · exact .inl h
                · exact .inr (.inl h)
                · exact .inr (.inr ⟨h1, jj', d, h2, by omega⟩)
              · rintro (h | h | ⟨h1, jj', d, rfl, h3⟩)
                · exact .inl h
                · exact .inr (.inl h)
                · by_cases hjl : jj' < i + 1 + j
                  · exact .inr (.inr ⟨h1, _, _, rfl, hjl⟩)
                  · have : jj' = jj := by omega
                    subst this
                    obtain ⟨_, a, b, q1, q2, q3, q4, rfl⟩ := h1
                    rw [hn2] at q2
                    cases q2
                    exact absurd q4 hn20
          · subst e1 e2
            rw [rngD_length] at e4 e5 hj
            repeat walk_at "e"
            refine ⟨hlt2, _, _, _, rfl, rfl, e3, by omega, fun x => ?_⟩
            rw [e5]
            constructor
            · rintro (h | rfl | ⟨h1, jj', d, rfl, h3⟩)
              · exact h.imp id fun ⟨a, b⟩ => ⟨a, by omega⟩
              · exact .inr ⟨⟨hn, hn0⟩, Nat.lt_succ_self _⟩
              · exact .inr ⟨h1, Nat.lt_succ_self _⟩
            · rintro (h | ⟨h1, h2⟩)
              · exact .inl (.inl h)
              · by_cases hil : plI x < i
                · exact .inl (.inr ⟨h1, hil⟩)
                · refine .inr ?_
                  have hxi : plI x = i := by omega
                  cases x with
                  | at_ i' n' =>
                    have : i' = i := hxi
                    subst this
                    have := h1.1
                    rw [hn] at this
                    cases this
                    exact .inl rfl
                  | as_ i' jj' d' =>
                    have : i' = i := hxi
                    subst this
                    refine .inr ⟨h1, _, _, rfl, ?_⟩
                    obtain ⟨_, a, b, q1, q2, _⟩ := h1
                    have := (List.getElem?_eq_some_iff.mp q2).1
                    omega
        · refine iF (decide_eq_false hn0) ?_
          repeat walk_at "e"
          refine ⟨hlt2, _, _, _, rfl, rfl, e3, by omega, fun x => ?_⟩
          rw [e5]
          constructor
          · exact fun h => h.imp id fun ⟨a, b⟩ => ⟨a, by omega⟩
          · rintro (h | ⟨h1, h2⟩)
            · exact .inl h
            · refine .inr ⟨h1, ?_⟩
              apply Classical.byContradiction
              intro hil
              have hxi : plI x = i := by omega
              cases x with
              | at_ i' n' =>
                have : i' = i := hxi
                subst this
                have := h1.1
                rw [hn] at this
                cases this
                exact hn0 h1.2
              | as_ i' jj' d' =>
                have : i' = i := hxi
                subst this
                obtain ⟨_, a, b, q1, q2, q3, _⟩ := h1
                rw [hn] at q1
                cases q1
                exact hn0 q3
      · subst e1 e2
        rw [rngD_length] at e4 e5
        repeat walk_at "e"
        refine ⟨hlt, _, _, _, _, _, rfl, rfl, e3, by omega, fun x => ?_⟩
        rw [e5]
        have hIs : IsPl (rs.take (t + 1)) x ↔ IsPl (rs.take t) x ∨ PlR r.2 x := by
          unfold IsPl
          rw [List.take_add_one, hri]
          constructor
          · rintro ⟨q, h, h'⟩
            rcases List.mem_append.mp h with h | h
            · exact .inl ⟨q, h, h'⟩
            · simp at h; subst h; exact .inr h'
          · rintro (⟨q, h, h'⟩ | h)
            · exact ⟨q, List.mem_append_left _ h, h'⟩
            · exact ⟨r, by simp, h⟩
        rw [hIs]
        constructor
        · exact fun h => h.imp id fun h => h.1
        · exact fun h => h.imp id fun h => ⟨h, by have := h.lt; omega⟩
    · subst e1 e2
      rw [List.length_map] at e4 e5
      rw [List.take_length] at e5
      walk_at "e"
      walk_at "e"
      refine de_drop ?_
      refine de_callTy (call_listN rfl) rfl B.list boot_list (by decide) (by decide) rfl rfl ?_
      repeat walk_at "e"
      refine rc_listN ⟨fp, rfl, 0, .inl rfl⟩ ?_
      have e : (ls.map plK).map kD = ls.map plD := by
        rw [List.map_map]
        exact List.map_congr_left fun x _ => kD_pl x
      rw [e]
      exact ⟨[], ⟨_, List.Perm.refl _, List.nil_sublist _⟩, kk ls e5 e4⟩
end
end
section
/-! ### bests, put_in -/
def worthF (q : Int × Int) : Int := if 0 < q.1 then 12 * q.1 - q.2 else -1
def worthsF (ns ps : List Int) : List Int := (ns.zip ps).map worthF
def bestsL (W : List Int) (t : Int) : List Int := (if t = 0 then [-1] else []) ++ ((List.range W.length).filter fun k => decide (W[k]? = some t)).map fun (k : Nat) => (k : Int)
def IsTop (W : List Int) (t : Int) : Prop := t ∈ (0 :: W) ∧ ∀ y ∈ (0 :: W), y ≤ t
def fsBests : FS := fun ds O post => ∃ (ns ps : List Int), ds = [.tup (ns.map .int), .tup (ps.map .int)] ∧ ns.length ≤ 3 ∧ (∀ n ∈ ns, 0 ≤ n ∧ n ≤ 100) ∧ O = [] ∧ ∀ t, IsTop (worthsF ns ps) t → post (.tup ((bestsL (worthsF ns ps) t).map .int)) []
abbrev sBests : Stmt := topS 60
theorem scBests : FnScope ["_law_numbers_here", "_law_prices", "_law_worths", "_law_top", "_law_b", "_law_p", "_law_k"] ["_law_numbers_here", "_law_prices"] (defScope sBests) := ⟨rfl, rfl, rfl, by decide +kernel, rfl, by decide +kernel, by decide +kernel⟩
section
variable {P : Program} {w : World} {K : PySem.W.Frag} {mg : Str → Option Value} {base : Heap} {f : Addr} {fd : FuncData}
theorem ok_bests (F : FnP K "_law_bests" sBests f fd) (B : Bn mg) : FnOk P w K mg base CX0 1 f fd ["_law_numbers_here", "_law_prices"] (spD P w fsBests) := by
  refine fokX F scBests (fun ds O post h => ?_) (fun cdv A outer s H E ds O post hr h => ?_)
  · obtain ⟨a, b, rfl, _⟩ := h; rfl
  · obtain ⟨ns, ps, rfl, hl, hns, rfl, kk⟩ := h
    have hN := scBests.nd
    have hWl : (worthsF ns ps).length ≤ 3 := by unfold worthsF; rw [List.length_map, List.length_zip]; omega
    walk_at "e"
    refine ds_st hN rfl (.inr rfl) rfl (.inl rfl) ?_
    refine de_lc (Oz := []) (own := [("_law_b", 4), ("_law_p", 5)]) rfl hN (blkOk_by (by kernel_rfl)) (by decide) (by intro _; rfl) ?_
    refine di_zipT rfl B.zip rfl rfl ?_
    repeat walk_at "e"
    refine ⟨_, _, rfl, ?_⟩
    rw [pairD_ints]
    refine lcd_map (ns.zip ps) _ (fun q => .int (worthF q)) (sz1000 (by rw [List.length_zip]; omega)) rfl (fun q hq => ?_) ?_
    · have hb := hns q.1 (List.of_mem_zip hq).1
      intro _ _ _ _ _
      repeat walk_at "e"
      intro _ _ _ _ _
      refine de_if ?_
      refine dt_cmpR op_gt (nomark _) ?_
      repeat walk_at "e"
      refine rd_B0 ⟨_, rfl, ?_⟩
      by_cases h0 : 0 < q.1
      · refine iT (decide_eq_true h0) ?_
        refine de_op op_sub ?_
        refine de_op op_mul ?_
        repeat walk_at "e"
        refine rd_I (.inl ⟨by omega, by omega⟩) ?_
        repeat walk_at "e"
        exact rd_I0 ⟨by unfold worthF; rw [if_pos h0], rfl⟩
      · refine iF (decide_eq_false h0) ?_
        refine de_negI ?_
        exact ⟨by unfold worthF; rw [if_neg h0], rfl⟩
    have eW : (ns.zip ps).map (fun q => D.int (worthF q)) = (worthsF ns ps).map D.int := by unfold worthsF; rw [List.map_map]; rfl
    rw [eW]
    generalize hW : worthsF ns ps = W at *
    walk_at "e"
    refine ds_st hN rfl (.inr rfl) rfl (.inl rfl) ?_
    walk_at "max"
    walk_at "e"
    refine de_op op_cat ?_
    refine de_lst ?_
    repeat walk_at "e"
    refine ⟨sz rfl, ?_⟩
    repeat walk_at "e"
    refine rd_cat (.inl rfl) (.inl rfl) (sz1000 (by rw [List.length_map]; simp; omega)) ?_
    walk_at "e"
    refine rc_max (ns := 0 :: W) sqd_l (by simp) fun t ht1 ht2 => ?_
    walk_at "e"
    walk_at "e"
    walk_at "tupof"
    walk_at "e"
    refine de_op op_cat ?_
    refine de_fz (i := 0) ?_
    refine de_op op_rep ?_
    refine de_lst ?_
    repeat walk_at "e"
    refine ⟨sz rfl, ?_⟩
    walk_at "intof"
    walk_at "e"
    refine de_cmpR op_eq (nomark _) ?_
    repeat walk_at "e"
    refine rd_eqI ?_
    repeat walk_at "e"
    refine rc_intB ?_
    have hn : (if decide (t = 0) = true then (1 : Int) else 0) = ((if t = 0 then 1 else 0 : Nat) : Int) := by by_cases h : t = 0 <;> simp [h]
    have hn1 : (if t = 0 then 1 else 0 : Nat) ≤ 1 := by split <;> omega
    rw [hn]
    refine rd_repO rfl ⟨by omega, by omega⟩ (sz1000 (by rw [Int.toNat_natCast]; simp; omega)) fun a0 => ⟨a0, _, rfl, rfl, rfl, ?_⟩
    rw [Int.toNat_natCast]
    have e0 : mD (.lst (List.replicate (if t = 0 then 1 else 0 : Nat) [D.int (-1)]).flatten) = .lst ((if t = 0 then [-1] else []).map D.int) := by
      by_cases h : t = 0
      · rw [if_pos h, if_pos h]; rfl
      · rw [if_neg h, if_neg h]; rfl
    rw [e0]
    refine de_lc (Oz := []) (own := [("_law_k", 6)]) rfl hN (blkOk_by (by kernel_rfl)) (by decide) (by intro _; rfl) ?_
    walk_at "rng1"
    walk_at "e"
    walk_at "len"
    repeat walk_at "e"
    refine rc_len sqd_l ?_
    repeat walk_at "e"
    rw [List.length_map]
    refine ⟨_, rfl, by omega, by omega, ?_⟩
    rw [Int.toNat_natCast]
    refine lcd_filter (List.range W.length) (fun j => .int (0 + (j : Nat))) (fun j => .int (j : Nat)) (fun k => decide (W[k]? = some t)) (sz1000 (by rw [List.length_range]; omega)) rfl (fun j hj => ?_) ?_
    · have hj := List.mem_range.mp hj
      have hWj : W[j]? = some W[j] := List.getElem?_eq_getElem hj
      rw [Int.zero_add]
      intro _ _ _ _ _
      repeat walk_at "e"
      intro _ _ _ _ _
      refine dt_cmpR op_eq (nomark _) ?_
      refine de_ix (fun _ _ => rfl) ?_
      repeat walk_at "e"
      refine ⟨_, _, _, sqd_l, rfl, atI_nat (map_at hWj), ?_⟩
      repeat walk_at "e"
      refine rd_eqI ⟨_, rfl, ?_⟩
      rw [hWj]
      by_cases h : W[j] = t
      · refine ⟨by simp [h], ?_⟩
        rw [if_pos (by simp [h])]
        intro _ _ _ _ _
        walk_at "e"
        exact ⟨rfl, rfl⟩
      · refine ⟨by simp [h], ?_⟩
        rw [if_neg (by simp [h])]
    refine rd_cat (.inl rfl) (.inl rfl) (sz1000 ?_) ?_
    · have := List.length_filter_le (fun k => decide (W[k]? = some t)) (List.range W.length)
      rw [List.length_range] at this
      rw [List.length_map, List.length_map]
      have : (if t = 0 then [(-1 : Int)] else []).length ≤ 1 := by split <;> simp
      omega
    repeat walk_at "e"
    refine rc_tup sqd_l ?_
    have := kk t ⟨ht1, ht2⟩
    unfold bestsL at this
    rw [List.map_append, List.map_map] at this
    exact this
end
end
section
/-! ### put_in, wider -/
def putO (one : Int) (o : List Int) : List (List Int) := (List.range (o.length + 1)).map fun a => o.take a ++ [one] ++ o.drop a
def putInF (os : List (List Int)) (one : Int) : List (List Int) := os.flatMap (putO one)
def fsPutIn : FS := fun ds O post => ∃ (os : List (List Int)) (one : Int), ds = [.lst (os.map liD), .int one] ∧ os.length ≤ 30 ∧ (∀ o ∈ os, o.length ≤ 5) ∧ O = [] ∧ post (.lst ((putInF os one).map liD)) []
abbrev sPutIn : Stmt := topS 65
theorem scPutIn : FnScope ["_law_orders", "_law_one", "_law_found", "_law_order", "_law_at"] ["_law_orders", "_law_one"] (defScope sPutIn) := ⟨rfl, rfl, rfl, by decide +kernel, rfl, by decide +kernel, by decide +kernel⟩
section
variable {P : Program} {w : World} {K : PySem.W.Frag} {mg : Str → Option Value} {base : Heap} {f : Addr} {fd : FuncData}
theorem ok_put_in (F : FnP K "_law_put_in" sPutIn f fd) (B : Bn mg) : FnOk P w K mg base CX0 1 f fd ["_law_orders", "_law_one"] (spD P w fsPutIn) := by
  refine fokX F scPutIn (fun ds O post h => ?_) (fun cdv A outer s H E ds O post hr h => ?_)
  · obtain ⟨a, b, rfl, _⟩ := h; rfl
  · obtain ⟨os, one, rfl, hl, hol, rfl, kk⟩ := h
    have hN := scPutIn.nd
    walk_at "e"
    refine ds_st hN rfl (.inl rfl) rfl (.inr rfl) ?_
    refine de_lst ?_
    repeat walk_at "e"
    refine ⟨sz rfl, ?_⟩
    walk_at "e"
    refine ds_for .never rfl (by intro _; rfl) (ts := [3]) (di_lst ?_)
    repeat walk_at "e"
    refine ⟨_, rfl, ?_⟩
    refine ⟨fun i ρ O => i ≤ os.length ∧ ∃ o, ρ = [some (.lst (os.map liD)), some (.int one), some (.lst (((os.take i).flatMap (putO one)).map liD)), o, none] ∧ O = [], ⟨Nat.zero_le _, _, rfl, rfl⟩, fun i d ρ O hd ⟨hi, o, e1, e2⟩ => ?_, fun ρ O ⟨hi, o, e1, e2⟩ => ?_⟩
    · subst e1 e2
      obtain ⟨od, hod, rfl⟩ := map_get hd
      obtain ⟨hlt, _⟩ := List.getElem?_eq_some_iff.mp hod
      have hol' := hol od (List.mem_of_getElem? hod)
      have hacc : ((os.take i).flatMap (putO one)).length ≤ 200 := by
        refine Nat.le_trans (flatMap_len (b := 6) fun x hx => ?_) ?_
        · have := hol x (List.mem_of_mem_take hx)
          unfold putO
          rw [List.length_map, List.length_range]
          omega
        · rw [List.length_take]
          omega
      walk_at "e"
      walk_at "e"
      refine ds_st hN rfl (.inl rfl) rfl (.inr rfl) ?_
      refine de_op op_cat ?_
      repeat walk_at "e"
      refine de_lc (Oz := []) (own := [("_law_at", 4)]) rfl hN (blkOk_by (by kernel_rfl)) (by decide) (by intro _; rfl) ?_
      walk_at "rng1"
      walk_at "e"
      refine de_op op_add ?_
      walk_at "len"
      repeat walk_at "e"
      unfold liD
      refine rc_len sqd_l ?_
      repeat walk_at "e"
      rw [List.length_map]
      refine rd_I0 ?_
      repeat walk_at "e"
      refine ⟨_, rfl, by omega, by omega, ?_⟩
      have hn : ((od.length : Int) + 1).toNat = od.length + 1 := by omega
      rw [hn]
      refine lcd_map (List.range (od.length + 1)) (fun j => .int (0 + (j : Nat))) (fun a => liD (od.take a ++ [one] ++ od.drop a)) (sz1000 (by rw [List.length_range]; omega)) rfl (fun j hj => ?_) ?_
      · have hj := List.mem_range.mp hj
        rw [Int.zero_add]
        intro _ _ _ _ _
        repeat walk_at "e"
        intro _ _ _ _ _
        refine de_op op_cat ?_
        refine de_op op_cat ?_
        refine de_cutTo ?_
        repeat walk_at "e"
        refine ⟨_, j, rfl, rfl, by rw [List.length_map]; omega, ?_⟩
        refine de_lst ?_
        repeat walk_at "e"
        refine ⟨sz rfl, ?_⟩
        refine rd_cat (.inl rfl) (.inl rfl) (sz1000 (by simp; omega)) ?_
        refine de_cutFrom ?_
        repeat walk_at "e"
        refine ⟨_, j, rfl, rfl, by rw [List.length_map]; omega, ?_⟩
        refine rd_cat (.inl rfl) (.inl rfl) (sz1000 (by simp; omega)) ?_
        refine ⟨?_, rfl⟩
        unfold liD
        rw [List.map_append, List.map_append, List.map_take, List.map_drop]
        rfl
      refine rd_cat (.inl rfl) (.inl rfl) (sz1000 (by rw [List.length_map, List.length_map, List.length_range]; omega)) ?_
      repeat walk_at "e"
      refine ⟨hlt, some (liD od), ?_, rfl⟩
      rw [flatMap_take_succ hod, List.map_append]
      have : (putO one od).map (fun l => D.lst (l.map D.int)) = (List.range (od.length + 1)).map fun a => liD (od.take a ++ [one] ++ od.drop a) := by unfold putO; rw [List.map_map]; rfl
      rw [this]
      rfl
    · subst e1 e2
      rw [List.length_map, List.take_length]
      repeat walk_at "e"
      exact kk
end
end
section
/-! ### wider -/
def lrK (row : PRow) : List Key := row.map fun q => Sum.inl (q.1 : Int)
def lrV (row : PRow) : List D := row.map fun q => .int q.2
def lrD (row : PRow) : D := .dK (lrK row) (lrV row)
theorem lr_len (row : PRow) : (lrK row).length = (lrV row).length := by unfold lrK lrV; rw [List.length_map, List.length_map]
theorem lrK_mem {row : PRow} {c : Nat} : (Sum.inl (c : Int) : Key) ∈ lrK row ↔ c ∈ row.map (·.1) := by
  unfold lrK
  rw [List.mem_map, List.mem_map]
  constructor
  · rintro ⟨q, hq, e⟩
    exact ⟨q, hq, by have := Sum.inl.inj e; show q.1 = c; omega⟩
  · rintro ⟨q, hq, e⟩
    exact ⟨q, hq, by rw [show q.1 = c from e]⟩
theorem lrK_lk {row : PRow} {c : Nat} (h : c ∈ row.map (·.1)) : kLk (lrK row) (lrV row) (.inl (c : Int)) = some (.int (prOf row c)) := by
  induction row with
  | nil => cases h
  | cons z row ih =>
    show (if (Sum.inl (z.1 : Int) : Key) = .inl (c : Int) then some (D.int z.2) else kLk (lrK row) (lrV row) _) = _
    unfold prOf
    rw [List.find?_cons]
    by_cases hz : z.1 = c
    · rw [if_pos (by rw [hz])]
      have : (z.1 == c) = true := by simpa using hz
      rw [this]; rfl
    · rw [if_neg fun e => hz (by have := Sum.inl.inj e; omega)]
      have : (z.1 == c) = false := by simpa using hz
      rw [this]
      refine ih ?_
      rw [List.map_cons] at h
      exact (List.mem_cons.mp h).resolve_left fun e => hz e.symm
def prsI (row : PRow) : List (Int × Int) := row.map fun q => ((q.1 : Int), q.2)
theorem items_lr (row : PRow) : ((lrK row).zip (lrV row)).map (fun q => D.tup [keyD q.1, q.2]) = (prsI row).map prI := by
  unfold lrK lrV prsI
  rw [List.zip_map', List.map_map, List.map_map]
  rfl
theorem prsI_perm {l m : PRow} (h : (prsI l).Perm (prsI m)) (hf : l.map (·.1) = m.map (·.1)) (hn : (l.map (·.1)).Nodup) : l = m := by
  have hmem : ∀ q ∈ m, q ∈ l := fun q hq => by
    have : ((q.1 : Int), q.2) ∈ prsI l := h.mem_iff.mpr (List.mem_map.mpr ⟨q, hq, rfl⟩)
    obtain ⟨z, hz, e⟩ := List.mem_map.mp this
    have e' : ((z.1 : Int), z.2) = ((q.1 : Int), q.2) := e
    injection e' with e1 e2
    have : z = q := Prod.ext (by omega) e2
    rw [← this]; exact hz
  have e1 : l = (l.map (·.1)).map fun j => (j, prOf l j) := by
    rw [List.map_map]
    conv => lhs; rw [← List.map_id l]
    apply List.map_congr_left
    intro q hq
    show q = (q.1, prOf l q.1)
    rw [prOf_mem hn hq]
  have e2 : m = (m.map (·.1)).map fun j => (j, prOf l j) := by
    rw [List.map_map]
    conv => lhs; rw [← List.map_id m]
    apply List.map_congr_left
    intro q hq
    show q = (q.1, prOf l q.1)
    rw [prOf_mem hn (hmem q hq)]
  rw [e1, hf, ← e2]
/-- the law's stops of a kind behind a row -/
def LStop (pls : List Pl) (row : PRow) (c : Nat) (s : Int) : Prop :=
  s = 0 ∨ ∃ p ∈ pls, (∃ n, p = .at_ c n ∧ s = 12 * n) ∨ (∃ j d, p = .as_ c j d ∧ j ∈ row.map (·.1) ∧ s = prOf row j + 12 * d) ∨ ∃ i d, p = .as_ i c d ∧ i ∈ row.map (·.1) ∧ s = prOf row i - 12 * d
def PlOk : Pl → Prop
  | .at_ _ n => 0 ≤ n ∧ n ≤ 100
  | .as_ i j _ => i ≠ j
def fsWider : FS := fun ds O post => ∃ (pls : List Pl) (rows : List PRow) (o : List Nat) (c : Nat), ds = [.lst (pls.map plD), .lst (rows.map lrD), .int (c : Int)] ∧ pls.length ≤ 1000 ∧ rows.length * (pls.length + 1) ≤ 8000000 ∧ (∀ p ∈ pls, PlOk p) ∧ (∀ r ∈ rows, r.map (·.1) = o) ∧ (o ++ [c]).Nodup ∧ o.length ≤ 2 ∧ O = [] ∧
  ∀ out : List PRow, (∀ x, x ∈ out ↔ ∃ row ∈ rows, ∃ s, LStop pls row c s ∧ 0 ≤ s ∧ x = row ++ [(c, s)]) → out.length ≤ rows.length * (pls.length + 1) → post (.lst (out.map lrD)) []
abbrev sWider : Stmt := topS 63
theorem scWider : FnScope ["_law_planes_here", "_law_rows", "_law_kind", "_law_found", "_law_known", "_law_row", "_law_stops", "_law_plane", "_law_stop", "_law_more_here", "_law_name"] ["_law_planes_here", "_law_rows", "_law_kind"] (defScope sWider) := ⟨rfl, rfl, rfl, by decide +kernel, rfl, by decide +kernel, by decide +kernel⟩
def nmM (ns : List (List (Int × Int))) : MO := .dN (ns.map kR) (ns.map fun _ => .bl true)
theorem nmM_put (ns : List (List (Int × Int))) (x : List (Int × Int)) : MO.dN (kPutK (ns.map kR) (kR x)) (kPutV (ns.map kR) (ns.map fun _ => D.bl true) (kR x) (.bl true)) = nmM (putG ns x) :=
  dn_putG (f := kR) kR_inj (g := fun _ => D.bl true) (g' := fun _ => D.bl true) (fun _ _ _ => rfl)
theorem LStop.cons {pls : List Pl} {row : PRow} {c : Nat} {i : Nat} {p : Pl} (h : pls[i]? = some p) {s : Int} :
    LStop (pls.take (i + 1)) row c s ↔ LStop (pls.take i) row c s ∨ ((∃ n, p = .at_ c n ∧ s = 12 * n) ∨ (∃ j d, p = .as_ c j d ∧ j ∈ row.map (·.1) ∧ s = prOf row j + 12 * d) ∨ ∃ i d, p = .as_ i c d ∧ i ∈ row.map (·.1) ∧ s = prOf row i - 12 * d) := by
  unfold LStop
  rw [List.take_add_one, h]
  constructor
  · rintro (h | ⟨q, hq, hs⟩)
    · exact .inl (.inl h)
    · rcases List.mem_append.mp hq with hq | hq
      · exact .inl (.inr ⟨q, hq, hs⟩)
      · simp at hq; subst hq; exact .inr hs
  · rintro ((h | ⟨q, hq, hs⟩) | hs)
    · exact .inl h
    · exact .inr ⟨q, List.mem_append_left _ hq, hs⟩
    · exact .inr ⟨p, by simp, hs⟩
section
variable {P : Program} {w : World} {K : PySem.W.Frag} {mg : Str → Option Value} {base : Heap} {f : Addr} {fd : FuncData}
theorem ok_wider (F : FnP K "_law_wider" sWider f fd) (B : Bn mg) : FnOk P w K mg base CX0 1 f fd ["_law_planes_here", "_law_rows", "_law_kind"] (spD P w fsWider) := by
  refine fokX F scWider (fun ds O post h => ?_) (fun cdv A outer s H E ds O post hr h => ?_)
  · obtain ⟨a, b, c, d, rfl, _⟩ := h; rfl
  · obtain ⟨pls, rows, o, c, rfl, hpl, hsz, hpo, hro, hnd, hol, rfl, kk⟩ := h
    have hN := scWider.nd
    have hu1 := room1 hr
    have hu9 := room9 hr
    walk_at "e"
    refine ds_par rfl hN (ixOf_at rfl) (ixOf_at rfl) (by decide) rfl rfl rfl rfl ?_
    walk_at "e"
    refine de_lstO ?_
    repeat walk_at "e"
    refine ⟨sz rfl, fun fp => ?_⟩
    walk_at "e"
    refine de_dnewN fun kp => ?_
    repeat walk_at "e"
    refine ⟨_, _, rfl, ?_⟩
    repeat walk_at "e"
    refine ds_for .never rfl (by intro _; rfl) (ts := [5]) (di_lst ?_)
    repeat walk_at "e"
    refine ⟨_, rfl, ?_⟩
    refine ⟨fun t ρ O => t ≤ rows.length ∧ ∃ (o1 o2 o3 o4 o5 o6 : Option D) (fs : List PRow) (ns : List (List (Int × Int))), ρ = [some (.lst (pls.map plD)), some (.lst (rows.map lrD)), some (.int (c : Int)), some (rawA fp), some (rawA kp), o1, o2, o3, o4, o5, o6] ∧ O = [(kp, nmM ns), (fp, .lst (fs.map lrD))] ∧
        ns.length ≤ t * (pls.length + 1) ∧ fs.length ≤ t * (pls.length + 1) ∧ (∀ q ∈ ns, ∃ x ∈ fs, q.Perm (prsI x)) ∧ ∀ x, x ∈ fs ↔ ∃ row ∈ rows.take t, ∃ s, LStop pls row c s ∧ 0 ≤ s ∧ x = row ++ [(c, s)],
      ⟨Nat.zero_le _, _, _, _, _, _, _, [], [], rfl, rfl, by simp, by simp, by simp, by simp⟩, fun t d ρ O hd ⟨ht, o1, o2, o3, o4, o5, o6, fs, ns, e1, e2, e3, e4, e5, e6⟩ => ?_, fun ρ O ⟨ht, o1, o2, o3, o4, o5, o6, fs, ns, e1, e2, e3, e4, e5, e6⟩ => ?_⟩
    · subst e1 e2
      obtain ⟨row, hri, rfl⟩ := map_get hd
      obtain ⟨hlt, _⟩ := List.getElem?_eq_some_iff.mp hri
      have hrow := hro row (List.mem_of_getElem? hri)
      walk_at "e"
      walk_at "e"
      refine ds_st hN rfl (.inl rfl) rfl (.inr rfl) ?_
      refine de_lstO ?_
      repeat walk_at "e"
      refine ⟨sz rfl, fun sp => ?_⟩
      walk_at "e"
      refine ds_for .never rfl (by intro _; rfl) (ts := [7]) (di_lst ?_)
      repeat walk_at "e"
      refine ⟨_, rfl, ?_⟩
      refine ⟨fun i ρ O => i ≤ pls.length ∧ ∃ (o3 : Option D) (ss : List Int), ρ = [some (.lst (pls.map plD)), some (.lst (rows.map lrD)), some (.int (c : Int)), some (rawA fp), some (rawA kp), some (lrD row), some (rawA sp), o3, o4, o5, o6] ∧ O = [(sp, .lst (ss.map D.int)), (kp, nmM ns), (fp, .lst (fs.map lrD))] ∧
          ss.length ≤ i + 1 ∧ ∀ s, s ∈ ss ↔ LStop (pls.take i) row c s,
        ⟨Nat.zero_le _, _, [0], rfl, rfl, Nat.le_refl _, fun s => by simp [LStop]⟩, fun i d ρ O hd ⟨hi, o3, ss, e1, e2, h3, h4⟩ => ?_, fun ρ O ⟨hi, o3, ss, e1, e2, h3, h4⟩ => ?_⟩
      · subst e1 e2
        obtain ⟨p, hpi, rfl⟩ := map_get hd
        obtain ⟨hlt2, _⟩ := List.getElem?_eq_some_iff.mp hpi
        have hpk := hpo p (List.mem_of_getElem? hpi)
        cases p with
        | at_ pi n =>
          unfold plD
          walk_at "e"
          refine dss_cons (ds_nx (M := fun ρ O => ∃ ss' : List Int, ρ = [some (.lst (pls.map plD)), some (.lst (rows.map lrD)), some (.int (c : Int)), some (rawA fp), some (rawA kp), some (lrD row), some (rawA sp), some (.tup [.str "at", .int (pi : Int), .int n]), o4, o5, o6] ∧ O = [(sp, .lst (ss'.map D.int)), (kp, nmM ns), (fp, .lst (fs.map lrD))] ∧
            ss'.length ≤ i + 2 ∧ ∀ s, s ∈ ss' ↔ LStop (pls.take (i + 1)) row c s) ?_ (fun ρ O ⟨ss', g1, g2, g3, g4⟩ => ?_))
          · refine ds_if ?_
            refine dt_w (dw_and ?_)
            refine dt_cmpR op_eq (nomark _) ?_
            refine de_ix (fun _ _ => rfl) ?_
            repeat walk_at "e"
            refine ⟨_, _, _, sqd_t, rfl, rfl, ?_⟩
            repeat walk_at "e"
            refine rd_eqS ⟨_, rfl, iT (by decide) ?_⟩
            refine dw_and1 ?_
            refine dt_cmpR op_eq (nomark _) ?_
            refine de_ix (fun _ _ => rfl) ?_
            repeat walk_at "e"
            refine ⟨_, _, _, sqd_t, rfl, rfl, ?_⟩
            repeat walk_at "e"
            refine rd_eqI ⟨_, rfl, ?_⟩
            by_cases hc : pi = c
            · refine iT (by simp [hc]) ?_
              walk_at "e"
              walk_at "expr"
              refine de_append rfl rfl rfl rfl rfl ?_
              repeat walk_at "e"
              refine ⟨⟨_, sqd_own (i := 0) rfl, sp, rfl⟩, ?_⟩
              walk_at "e"
              refine de_op op_mul ?_
              repeat walk_at "e"
              refine de_ix (fun _ _ => rfl) ?_
              repeat walk_at "e"
              refine ⟨_, _, _, sqd_t, rfl, rfl, ?_⟩
              refine rd_I (.inl ⟨by omega, by omega⟩) ?_
              repeat walk_at "e"
              refine ⟨sp, 0, _, _, rfl, rfl, rfl, by rw [List.length_map]; exact Nat.lt_of_lt_of_le (show _ < 2000 by omega) (by decide), ?_⟩
              repeat walk_at "e"
              refine ⟨ss ++ [12 * n], rfl, by rw [List.map_append]; rfl, by simp; omega, fun s => ?_⟩
              rw [LStop.cons hpi, List.mem_append, h4]
              refine or_congr Iff.rfl ?_
              simp [hc]
            · refine iF (by simp; omega) ?_
              repeat walk_at "e"
              refine ⟨ss, rfl, rfl, by omega, fun s => ?_⟩
              rw [LStop.cons hpi, h4]
              simp [hc]
          · subst g1 g2
            repeat walk_at "e"
            refine dt_cmpR op_eq (nomark _) ?_
            refine de_ix (fun _ _ => rfl) ?_
            repeat walk_at "e"
            refine ⟨_, _, _, sqd_t, rfl, rfl, ?_⟩
            repeat walk_at "e"
            refine rd_eqS ⟨_, rfl, iF (by decide) ?_⟩
            refine iF rfl ?_
            repeat walk_at "e"
            refine dt_cmpR op_eq (nomark _) ?_
            refine de_ix (fun _ _ => rfl) ?_
            repeat walk_at "e"
            refine ⟨_, _, _, sqd_t, rfl, rfl, ?_⟩
            repeat walk_at "e"
            refine rd_eqS ⟨_, rfl, iF (by decide) ?_⟩
            refine iF rfl ?_
            repeat walk_at "e"
            exact ⟨hlt2, _, ss', rfl, rfl, by omega, g4⟩
        | as_ pi pj pd =>
          unfold plD
          have hfin : ∀ s, LStop (pls.take (i + 1)) row c s ↔ LStop (pls.take i) row c s ∨ (pi = c ∧ pj ∈ row.map (·.1) ∧ s = prOf row pj + 12 * pd) ∨ (pj = c ∧ pi ∈ row.map (·.1) ∧ s = prOf row pi - 12 * pd) := fun s => by
            rw [LStop.cons hpi]
            refine or_congr Iff.rfl ?_
            constructor
            · rintro (⟨n, h, _⟩ | ⟨j, d, h, h1, h2⟩ | ⟨j, d, h, h1, h2⟩)
              · cases h
              · cases h; exact .inl ⟨rfl, h1, h2⟩
              · cases h; exact .inr ⟨rfl, h1, h2⟩
            · rintro (⟨rfl, h1, h2⟩ | ⟨rfl, h1, h2⟩)
              · exact .inr (.inl ⟨_, _, rfl, h1, h2⟩)
              · exact .inr (.inr ⟨_, _, rfl, h1, h2⟩)
          walk_at "e"
          walk_at "e"
          refine ds_if ?_
          refine dt_w (dw_and ?_)
          refine dt_cmpR op_eq (nomark _) ?_
          refine de_ix (fun _ _ => rfl) ?_
          repeat walk_at "e"
          refine ⟨_, _, _, sqd_t, rfl, rfl, ?_⟩
          repeat walk_at "e"
          refine rd_eqS ⟨_, rfl, iF (by decide) ?_⟩
          refine iF rfl ?_
          walk_at "e"
          refine dss_cons (ds_nx (M := fun ρ O => ∃ ss' : List Int, ρ = [some (.lst (pls.map plD)), some (.lst (rows.map lrD)), some (.int (c : Int)), some (rawA fp), some (rawA kp), some (lrD row), some (rawA sp), some (.tup [.str "as", .int (pi : Int), .int (pj : Int), .int pd]), o4, o5, o6] ∧ O = [(sp, .lst (ss'.map D.int)), (kp, nmM ns), (fp, .lst (fs.map lrD))] ∧
            ss'.length ≤ i + 1 + (if pi = c then 1 else 0) ∧ ∀ s, s ∈ ss' ↔ LStop (pls.take i) row c s ∨ (pi = c ∧ pj ∈ row.map (·.1) ∧ s = prOf row pj + 12 * pd)) ?_ (fun ρ O ⟨ss', g1, g2, g3, g4⟩ => ?_))
          · refine ds_if ?_
            refine dt_w (dw_and ?_)
            refine dt_cmpR op_eq (nomark _) ?_
            refine de_ix (fun _ _ => rfl) ?_
            repeat walk_at "e"
            refine ⟨_, _, _, sqd_t, rfl, rfl, ?_⟩
            repeat walk_at "e"
            refine rd_eqS ⟨_, rfl, iT (by decide) ?_⟩
            refine dw_and ?_
            refine dt_cmpR op_eq (nomark _) ?_
            refine de_ix (fun _ _ => rfl) ?_
            repeat walk_at "e"
            refine ⟨_, _, _, sqd_t, rfl, rfl, ?_⟩
            repeat walk_at "e"
            refine rd_eqI ⟨_, rfl, ?_⟩
            by_cases hc : pi = c
            · refine iT (by simp [hc]) ?_
              refine dw_and1 ?_
              refine dt_inK (k := .inl (pj : Int)) hu1 rfl ?_
              refine de_ix (fun _ _ => rfl) ?_
              repeat walk_at "e"
              refine ⟨_, _, _, sqd_t, rfl, rfl, ?_⟩
              repeat walk_at "e"
              refine ⟨lrK row, lrV row, .inl rfl, rfl, ?_⟩
              by_cases hm : pj ∈ row.map (·.1)
              · refine iT (kHas_mem.mpr (lrK_mem.mpr hm)) ?_
                walk_at "e"
                walk_at "expr"
                refine de_append rfl rfl rfl rfl rfl ?_
                repeat walk_at "e"
                refine ⟨⟨_, sqd_own (i := 0) rfl, sp, rfl⟩, ?_⟩
                walk_at "e"
                refine de_op op_add ?_
                refine de_ixK hu1 (fun _ _ => rfl) ?_
                repeat walk_at "e"
                refine de_ix (fun _ _ => rfl) ?_
                repeat walk_at "e"
                refine ⟨_, _, _, sqd_t, rfl, rfl, ?_⟩
                refine ⟨lrK row, lrV row, .inl (pj : Int), _, .inl rfl, rfl, lrK_lk hm, ?_⟩
                refine de_op op_mul ?_
                repeat walk_at "e"
                refine de_ix (fun _ _ => rfl) ?_
                repeat walk_at "e"
                refine ⟨_, _, _, sqd_t, rfl, rfl, ?_⟩
                refine rd_I (.inl ⟨by omega, by omega⟩) ?_
                refine rd_I0 ?_
                repeat walk_at "e"
                refine ⟨sp, 0, _, _, rfl, rfl, rfl, by rw [List.length_map]; exact Nat.lt_of_lt_of_le (show _ < 2000 by omega) (by decide), ?_⟩
                repeat walk_at "e"
                refine ⟨ss ++ [prOf row pj + 12 * pd], rfl, by rw [List.map_append]; rfl, by rw [List.length_append, if_pos hc]; simp; omega, fun s => ?_⟩
                rw [List.mem_append, h4]
                refine or_congr Iff.rfl ?_
                simp only [List.mem_singleton]
                exact ⟨fun h => ⟨hc, hm, h⟩, fun h => h.2.2⟩
              · refine iF (by rw [← Bool.not_eq_true]; exact fun h => hm (lrK_mem.mp (kHas_mem.mp h))) ?_
                repeat walk_at "e"
                refine ⟨ss, rfl, rfl, by omega, fun s => ?_⟩
                rw [h4]
                exact ⟨.inl, fun h => h.elim id fun h => absurd h.2.1 hm⟩
            · refine iF (by simp; omega) ?_
              refine iF rfl ?_
              repeat walk_at "e"
              refine ⟨ss, rfl, rfl, by omega, fun s => ?_⟩
              rw [h4]
              exact ⟨.inl, fun h => h.elim id fun h => absurd h.1 hc⟩

          · subst g1 g2
            have hle : (if pi = c then 1 else 0 : Nat) ≤ 1 := by split <;> omega
            walk_at "e"
            refine ds_if ?_
            refine dt_w (dw_and ?_)
            refine dt_cmpR op_eq (nomark _) ?_
            refine de_ix (fun _ _ => rfl) ?_
            repeat walk_at "e"
            refine ⟨_, _, _, sqd_t, rfl, rfl, ?_⟩
            repeat walk_at "e"
            refine rd_eqS ⟨_, rfl, iT (by decide) ?_⟩
            refine dw_and ?_
            refine dt_cmpR op_eq (nomark _) ?_
            refine de_ix (fun _ _ => rfl) ?_
            repeat walk_at "e"
            refine ⟨_, _, _, sqd_t, rfl, rfl, ?_⟩
            repeat walk_at "e"
            refine rd_eqI ⟨_, rfl, ?_⟩
            by_cases hc : pj = c
            · refine iT (by simp [hc]) ?_
              refine dw_and1 ?_
              refine dt_inK (k := .inl (pi : Int)) hu1 rfl ?_
              refine de_ix (fun _ _ => rfl) ?_
              repeat walk_at "e"
              refine ⟨_, _, _, sqd_t, rfl, rfl, ?_⟩
              repeat walk_at "e"
              refine ⟨lrK row, lrV row, .inl rfl, rfl, ?_⟩
              by_cases hm : pi ∈ row.map (·.1)
              · refine iT (kHas_mem.mpr (lrK_mem.mpr hm)) ?_
                walk_at "e"
                walk_at "expr"
                refine de_append rfl rfl rfl rfl rfl ?_
                repeat walk_at "e"
                refine ⟨⟨_, sqd_own (i := 0) rfl, sp, rfl⟩, ?_⟩
                walk_at "e"
                refine de_op op_sub ?_
                refine de_ixK hu1 (fun _ _ => rfl) ?_
                repeat walk_at "e"
                refine de_ix (fun _ _ => rfl) ?_
                repeat walk_at "e"
                refine ⟨_, _, _, sqd_t, rfl, rfl, ?_⟩
                refine ⟨lrK row, lrV row, .inl (pi : Int), _, .inl rfl, rfl, lrK_lk hm, ?_⟩
                refine de_op op_mul ?_
                repeat walk_at "e"
                refine de_ix (fun _ _ => rfl) ?_
                repeat walk_at "e"
                refine ⟨_, _, _, sqd_t, rfl, rfl, ?_⟩
                refine rd_I (.inl ⟨by omega, by omega⟩) ?_
                refine rd_I0 ?_
                repeat walk_at "e"
                refine ⟨sp, 0, _, _, rfl, rfl, rfl, by rw [List.length_map]; exact Nat.lt_of_lt_of_le (show _ < 2000 by omega) (by decide), ?_⟩
                repeat walk_at "e"
                refine ⟨hlt2, _, ss' ++ [prOf row pi - 12 * pd], rfl, by rw [List.map_append]; rfl, ?_, fun s => ?_⟩
                · rw [List.length_append, List.length_singleton]
                  have : pi ≠ c := fun e => hpk (e.trans hc.symm)
                  rw [if_neg this] at g3
                  omega
                · rw [List.mem_append, g4, hfin]
                  simp only [List.mem_singleton]
                  exact ⟨fun h => h.elim (fun h => h.elim .inl fun h => .inr (.inl h)) fun h => .inr (.inr ⟨hc, hm, h⟩), fun h => h.elim (fun h => .inl (.inl h)) fun h => h.elim (fun h => .inl (.inr h)) fun h => .inr h.2.2⟩
              · refine iF (by rw [← Bool.not_eq_true]; exact fun h => hm (lrK_mem.mp (kHas_mem.mp h))) ?_
                repeat walk_at "e"
                refine ⟨hlt2, _, ss', rfl, rfl, ?_, fun s => ?_⟩
                · have : (if pi = c then 1 else 0) ≤ 1 := by split <;> omega
                  omega
                · rw [g4, hfin]
                  exact ⟨fun h => h.elim .inl fun h => .inr (.inl h), fun h => h.elim .inl fun h => h.elim .inr fun h => absurd h.2.1 hm⟩
            · refine iF (by simp; omega) ?_
              refine iF rfl ?_
              repeat walk_at "e"
              refine ⟨hlt2, _, ss', rfl, rfl, ?_, fun s => ?_⟩
              · have : (if pi = c then 1 else 0) ≤ 1 := by split <;> omega
                omega
              · rw [g4, hfin]
                exact ⟨fun h => h.elim .inl fun h => .inr (.inl h), fun h => h.elim .inl fun h => h.elim .inr fun h => absurd h.1 hc⟩

      · subst e1 e2
        rw [List.length_map] at h3 h4
        rw [List.take_length] at h4
        have hcr : c ∉ row.map (·.1) := by
          rw [hrow]
          intro h
          exact (List.nodup_append.mp hnd).2.2 c h c (List.mem_singleton.mpr rfl) rfl
        have hput : ∀ s : Int, MO.dK (kPutK (lrK row) (.inl (c : Int))) (kPutV (lrK row) (lrV row) (.inl (c : Int)) (.int s)) = .dK (lrK (row ++ [(c, s)])) (lrV (row ++ [(c, s)])) := fun s => by
          have hk : (Sum.inl (c : Int) : Key) ∉ lrK row := fun h => hcr (lrK_mem.mp h)
          rw [kPutK_new hk, kPutV_new hk]
          unfold lrK lrV
          rw [List.map_append, List.map_append]
          rfl
        have hmul : (t + 1) * (pls.length + 1) ≤ rows.length * (pls.length + 1) := Nat.mul_le_mul_right _ hlt
        have hmul2 : (t + 1) * (pls.length + 1) = t * (pls.length + 1) + (pls.length + 1) := Nat.succ_mul _ _
        generalize t * (pls.length + 1) = T at *
        generalize rows.length * (pls.length + 1) = R at *
        refine dss_fz 0 6 rfl rfl rfl ?_
        walk_at "e"
        refine ds_for .never rfl (by intro _; rfl) (ts := [8]) (di_lst ?_)
        repeat walk_at "e"
        refine ⟨_, rfl, ?_⟩
        refine ⟨fun i ρ O => i ≤ ss.length ∧ ∃ (o8 o9 o10 : Option D) (fs : List PRow) (ns : List (List (Int × Int))), ρ = [some (.lst (pls.map plD)), some (.lst (rows.map lrD)), some (.int (c : Int)), some (rawA fp), some (rawA kp), some (lrD row), some (.lst (ss.map D.int)), o3, o8, o9, o10] ∧ O = [(kp, nmM ns), (fp, .lst (fs.map lrD))] ∧
            ns.length ≤ T + i ∧ fs.length ≤ T + i ∧ (∀ q ∈ ns, ∃ x ∈ fs, q.Perm (prsI x)) ∧ ∀ x, x ∈ fs ↔ (∃ row ∈ rows.take t, ∃ s, LStop pls row c s ∧ 0 ≤ s ∧ x = row ++ [(c, s)]) ∨ ∃ s ∈ ss.take i, 0 ≤ s ∧ x = row ++ [(c, s)],
          ⟨Nat.zero_le _, _, _, _, fs, ns, rfl, rfl, by omega, by omega, e5, fun x => by rw [e6]; simp⟩, fun i d ρ O hd ⟨hi, o8, o9, o10, fs, ns, e1, e2, e3, e4, e5, e6⟩ => ?_, fun ρ O ⟨hi, o8, o9, o10, fs, ns, e1, e2, e3, e4, e5, e6⟩ => ?_⟩
        · subst e1 e2
          obtain ⟨st, hsi, rfl⟩ := map_get hd
          obtain ⟨hlt2, _⟩ := List.getElem?_eq_some_iff.mp hsi
          have htk : ∀ x : PRow, (∃ s ∈ ss.take (i + 1), 0 ≤ s ∧ x = row ++ [(c, s)]) ↔ (∃ s ∈ ss.take i, 0 ≤ s ∧ x = row ++ [(c, s)]) ∨ (0 ≤ st ∧ x = row ++ [(c, st)]) := fun x => by
            rw [List.take_add_one, hsi]
            constructor
            · rintro ⟨s, h, h'⟩
              rcases List.mem_append.mp h with h | h
              · exact .inl ⟨s, h, h'⟩
              · simp at h; subst h; exact .inr h'
            · rintro (⟨s, h, h'⟩ | h)
              · exact ⟨s, List.mem_append_left _ h, h'⟩
              · exact ⟨st, by simp, h⟩
          walk_at "e"
          walk_at "e"
          refine ds_st hN rfl (.inl rfl) rfl (.inr rfl) ?_
          refine de_callTy call_dictD rfl B.dict boot_dict (by decide) (by decide) rfl rfl ?_
          repeat walk_at "e"
          refine rc_dictO (ks := lrK row) (ds := lrV row) (.inl rfl) fun mp => ?_
          walk_at "e"
          refine ds_asg (ts := []) ?_ rfl rfl rfl
          repeat walk_at "e"
          refine dg_sub (set_dk hu1) (by intro _; rfl) ?_
          repeat walk_at "e"
          refine std_dk (k := .inl (c : Int)) (j := 0) rfl rfl ?_ ?_
          · unfold lrK
            rw [List.length_map]
            have := congrArg List.length hrow
            rw [List.length_map] at this
            exact Nat.lt_of_lt_of_le (show _ < 1000 by omega) (by decide)
          rw [hput]
          walk_at "e"
          refine ds_st hN rfl (.inl rfl) rfl (.inr rfl) ?_
          walk_at "tupof"
          walk_at "e"
          walk_at "sortedP"
          walk_at "e"
          refine de_listItems rfl rfl B.list rfl rfl rfl ?_
          repeat walk_at "e"
          refine ⟨_, _, dkd_own (i := 0) rfl, ?_⟩
          rw [items_lr]
          repeat walk_at "e"
          refine rc_sortedP fun qs hp hs => ?_
          repeat walk_at "e"
          refine rc_tup sqd_l ?_
          refine dss_fz 0 9 rfl rfl rfl ?_
          have ek : D.tup (qs.map prI) = kD (kR qs) := (kD_R qs).symm
          rw [ek]
          walk_at "e"
          refine ds_if ?_
          refine dt_w (dw_and ?_)
          refine dt_cmpR op_ge (nomark _) ?_
          repeat walk_at "e"
          refine rd_B0 ⟨_, rfl, ?_⟩
          by_cases h0 : 0 ≤ st
          · refine iT (by simpa using h0) ?_
            refine dw_and1 ?_
            refine dt_cmpR (op_ninN hu9) rfl ?_
            repeat walk_at "e"
            refine rd_ninN (ks := ns.map kR) (ds := ns.map fun _ => .bl true) (k := kR qs) ⟨kp, rfl, 0, .inl rfl⟩ rfl ⟨_, rfl⟩ (kR_depth _) ⟨_, rfl, ?_⟩
            have hin : kR qs ∈ ns.map kR ↔ qs ∈ ns := ⟨fun h => by obtain ⟨y, hy, e⟩ := List.mem_map.mp h; rw [← kR_inj _ _ e]; exact hy, fun h => List.mem_map.mpr ⟨qs, h, rfl⟩⟩
            by_cases hq : qs ∈ ns
            · refine iF (by rw [decide_eq_true (hin.mpr hq)]; rfl) ?_
              repeat walk_at "e"
              refine ⟨hlt2, _, _, _, fs, ns, rfl, rfl, by omega, by omega, e5, fun x => ?_⟩
              rw [e6, htk]
              constructor
              · exact fun h => h.imp id .inl
              · rintro (h | h | ⟨h1, rfl⟩)
                · exact .inl h
                · exact .inr h
                · obtain ⟨x, hx, hpx⟩ := e5 qs hq
                  have hxo : x.map (·.1) = o ++ [c] := by
                    rcases (e6 x).mp hx with ⟨r0, hr0, s0, _, _, rfl⟩ | ⟨s0, _, _, rfl⟩
                    · rw [List.map_append, hro r0 (List.mem_of_mem_take hr0)]; rfl
                    · rw [List.map_append, hrow]; rfl
                  have hxr : (row ++ [(c, st)]).map (·.1) = o ++ [c] := by rw [List.map_append, hrow]; rfl
                  have : x = row ++ [(c, st)] := prsI_perm (hpx.symm.trans hp) (hxo.trans hxr.symm) (by rw [hxo]; exact hnd)
                  rw [← this]
                  exact (e6 x).mp hx
            · refine iT (by rw [decide_eq_false (fun h => hq (hin.mp h))]; rfl) ?_
              walk_at "e"
              refine ds_asg (ts := []) ?_ rfl rfl rfl
              walk_at "e"
              refine dg_sub (set_nd hu9) (by intro _; rfl) ?_
              repeat walk_at "e"
              refine std_dn (ks := ns.map kR) (ds := ns.map fun _ => .bl true) (j := 0) (k := kR qs) rfl ⟨_, rfl⟩ (kR_depth _) rfl ?_ ?_
              · rw [List.length_map]
                exact Nat.lt_of_lt_of_le (show _ < 16000000 by omega) (by decide)
              rw [nmM_put]
              walk_at "e"
              walk_at "expr"
              refine de_append rfl rfl rfl rfl rfl ?_
              repeat walk_at "e"
              refine ⟨⟨_, sqd_own (i := 1) rfl, fp, rfl⟩, ?_⟩
              repeat walk_at "e"
              refine ⟨fp, 1, _, _, rfl, rfl, rfl, by rw [List.length_map]; exact Nat.lt_of_lt_of_le (show _ < 16000000 by omega) (by decide), ?_⟩
              repeat walk_at "e"
              have hpl := putG_len ns qs
              refine ⟨hlt2, _, _, _, fs ++ [row ++ [(c, st)]], putG ns qs, rfl, by rw [List.map_append]; rfl, by omega, by rw [List.length_append, List.length_singleton]; omega, fun q hq => ?_, fun x => ?_⟩
              · rcases mem_putG.mp hq with h | rfl
                · obtain ⟨x, hx, hpx⟩ := e5 q h
                  exact ⟨x, List.mem_append_left _ hx, hpx⟩
                · exact ⟨row ++ [(c, st)], by simp, hp⟩
              · rw [List.mem_append, e6, htk, List.mem_singleton]
                constructor
                · rintro ((h | h) | h)
                  · exact .inl h
                  · exact .inr (.inl h)
                  · exact .inr (.inr ⟨h0, h⟩)
                · rintro (h | h | h)
                  · exact .inl (.inl h)
                  · exact .inl (.inr h)
                  · exact .inr h.2
          · refine iF (by simp; omega) ?_
            refine iF rfl ?_
            repeat walk_at "e"
            refine ⟨hlt2, _, _, _, fs, ns, rfl, rfl, by omega, by omega, e5, fun x => ?_⟩
            rw [e6, htk]
            constructor
            · exact fun h => h.imp id .inl
            · rintro (h | h | ⟨h1, _⟩)
              · exact .inl h
              · exact .inr h
              · exact absurd h1 h0
        · subst e1 e2
          rw [List.length_map] at e3 e4 e6
          rw [List.take_length] at e6
          repeat walk_at "e"
          refine ⟨hlt, _, _, _, _, _, _, fs, ns, rfl, rfl, by omega, by omega, e5, fun x => ?_⟩
          rw [e6, List.take_add_one, hri]
          constructor
          · rintro (⟨r0, h1, h2⟩ | ⟨s, h1, h2, h3⟩)
            · exact ⟨r0, List.mem_append_left _ h1, h2⟩
            · exact ⟨row, by simp, s, (h4 s).mp h1, h2, h3⟩
          · rintro ⟨r0, h1, s, h2, h3, h5⟩
            rcases List.mem_append.mp h1 with h | h
            · exact .inl ⟨r0, h, s, h2, h3, h5⟩
            · simp at h; subst h
              exact .inr ⟨s, (h4 s).mpr h2, h3, h5⟩
    · subst e1 e2
      rw [List.length_map] at e3 e4 e6
      rw [List.take_length] at e6
      walk_at "e"
      walk_at "e"
      refine de_drop ?_
      refine de_fz (i := 1) ?_
      repeat walk_at "e"
      exact ⟨fp, _, rfl, rfl, rfl, [], ⟨_, List.Perm.refl _, List.nil_sublist _⟩, kk fs e6 e4⟩
end
end
section
/-! ### the law's corners -/
def LS (A : Pl → Prop) (row : PRow) (c : Nat) (s : Int) : Prop :=
  s = 0 ∨ ∃ p, A p ∧ ((∃ n, p = .at_ c n ∧ s = 12 * n) ∨ (∃ j d, p = .as_ c j d ∧ j ∈ row.map (·.1) ∧ s = prOf row j + 12 * d) ∨ ∃ i d, p = .as_ i c d ∧ i ∈ row.map (·.1) ∧ s = prOf row i - 12 * d)
theorem LS.iff {A : Pl → Prop} {pls : List Pl} (h : ∀ x, x ∈ pls ↔ A x) {row : PRow} {c : Nat} {s : Int} : LStop pls row c s ↔ LS A row c s := by
  unfold LStop LS
  refine or_congr Iff.rfl ⟨fun ⟨p, hp, q⟩ => ⟨p, (h p).mp hp, q⟩, fun ⟨p, hp, q⟩ => ⟨p, (h p).mpr hp, q⟩⟩
inductive LPlaced (A : Pl → Prop) : List Nat → PRow → Prop
  | nil : LPlaced A [] []
  | snoc {o : List Nat} {row : PRow} {c : Nat} {x : Int} : LPlaced A o row → LS A row c x → 0 ≤ x → LPlaced A (o ++ [c]) (row ++ [(c, x)])
theorem LPlaced.fst {A : Pl → Prop} {o : List Nat} {row : PRow} (h : LPlaced A o row) : row.map (·.1) = o := by
  induction h with
  | nil => rfl
  | snoc _ _ _ ih => rw [List.map_append, ih]; rfl
theorem LPlaced.snoc_iff {A : Pl → Prop} {o : List Nat} {c : Nat} {row' : PRow} : LPlaced A (o ++ [c]) row' ↔ ∃ row, LPlaced A o row ∧ ∃ x, LS A row c x ∧ 0 ≤ x ∧ row' = row ++ [(c, x)] := by
  constructor
  · intro h
    generalize ho : o ++ [c] = o' at h
    cases h with
    | nil => simp at ho
    | snoc h1 h2 h3 =>
      obtain ⟨e1, e2⟩ := List.append_inj' ho rfl
      cases e2
      subst e1
      exact ⟨_, h1, _, h2, h3, rfl⟩
  · rintro ⟨row, h1, x, h2, h3, rfl⟩
    exact .snoc h1 h2 h3
theorem LPlaced.nil_iff {A : Pl → Prop} {row : PRow} : LPlaced A [] row ↔ row = [] := by
  constructor
  · intro h
    have := h.fst
    simpa using this
  · rintro rfl
    exact .nil
def LCorner (A : Pl → Prop) (k : Nat) (p : List Int) : Prop := ∃ o ∈ natOrders k, ∃ row, LPlaced A o row ∧ p = cornerP k row
def ordD (k : Nat) : D := .lst ((natOrders k).map fun o => liD (o.map fun (j : Nat) => (j : Int)))
/-- so many rows that the law's lists stay small -/
def Few (k n : Nat) : Prop := n ≤ 8 ∧ (k = 3 → n ≤ 5)
theorem Few.pow {k n S : Nat} (h : Few k n) (hk : k ≤ 3) (hS : S ≤ 9 * n + 1) : S ^ k ≤ 100000 := by
  obtain ⟨h8, h5⟩ := h
  by_cases h3 : k = 3
  · subst h3
    exact Nat.le_trans (Nat.pow_le_pow_left (show S ≤ 46 by have := h5 rfl; omega) 3) (by decide)
  · exact Nat.le_trans (Nat.pow_le_pow_left (show S ≤ 73 by omega) k) (Nat.le_trans (Nat.pow_le_pow_right (by decide) (show k ≤ 2 by omega)) (by decide))
def fsLCorners : FS := fun ds O post => ∃ (k : Nat) (s : Int) (rs : List WRow), ds = [lawD k s rs] ∧ 1 ≤ k ∧ k ≤ 3 ∧ Few k rs.length ∧ (∀ r ∈ rs, LOk k 100 r) ∧ O = [] ∧ ∀ L : List (List Int), (∀ p, p ∈ L ↔ LCorner (IsPl rs) k p) → L.length ≤ 600000 → post (.lst (L.map fun p => .tup (p.map .int))) []
abbrev sLCorners : Stmt := topS 62
theorem scLCorners : FnScope ["_law_bids", "_law_kinds", "_law_planes_here", "_law_found", "_law_orders", "_law_order", "_law_rows", "_law_kind", "_law_row"] ["_law_bids"] (defScope sLCorners) := ⟨rfl, rfl, rfl, by decide +kernel, rfl, by decide +kernel, by decide +kernel⟩
section
variable {P : Program} {w : World} {K : PySem.W.Frag} {mg : Str → Option Value} {base : Heap} {f : Addr} {fd : FuncData}
theorem ok_lcorners (F : FnP K "_law_corners" sLCorners f fd) (B : Bn mg) (G1 : Std P w K mg base 1 "_law_planes" ["_law_bids"] fsPlanes) (G2 : Std P w K mg base 1 "_law_wider" ["_law_planes_here", "_law_rows", "_law_kind"] fsWider) : FnOk P w K mg base CX0 2 f fd ["_law_bids"] (spD P w fsLCorners) := by
  refine fokX F scLCorners (fun ds O post h => ?_) (fun cdv A outer s H E ds O post hr h => ?_)
  · obtain ⟨a, b, c, rfl, _⟩ := h; rfl
  · obtain ⟨k, sc, rs, rfl, hk1, hk3, hfew, hrs, rfl, kk⟩ := h
    have hN := scLCorners.nd
    have hu1 := room1 hr
    have hu9 := room9 hr
    walk_at "e"
    refine ds_par3 rfl hN (ixOf_at rfl) (ixOf_at rfl) (ixOf_at rfl) (by decide) (by decide) (by decide) rfl rfl rfl rfl rfl ?_
    walk_at "e"
    refine de_ixK hu1 (fun _ _ => rfl) ?_
    repeat walk_at "e"
    refine ⟨lawKs, _, .inr "kinds", _, .inl rfl, rfl, lawL1, ?_⟩
    walk_at "e"
    refine de_c0 G1 hr (by decide) rfl (by decide) rfl rfl ?_
    repeat walk_at "e"
    refine ⟨k, sc, rs, rfl, hk1, hk3, by have := hfew.1; omega, hrs, rfl, fun pls hpls hpll => ?_⟩
    walk_at "e"
    refine de_dnewN fun fp => ?_
    repeat walk_at "e"
    refine ⟨_, _, _, rfl, ?_⟩
    walk_at "e"
    refine ds_st hN rfl (.inl rfl) rfl (.inr rfl) ?_
    refine de_fz (i := 0) ?_
    refine de_disp rfl rfl (by simp) (by decide) ?_
    refine de_int ?_
    repeat (first | walk_at "e" | refine de_lst ?_ | refine ⟨sz rfl, ?_⟩)
    refine ⟨[.inl 1, .inl 2, .inl 3], rfl, by decide, rfl, Nat.le_of_ble_eq_true rfl, fun p => ⟨p, _, rfl, rfl, rfl, ?_⟩⟩
    have eO : mD (.dK [.inl 1, .inl 2, .inl 3] [ordD 1, ordD 2, ordD 3]) = .dK [.inl 1, .inl 2, .inl 3] [ordD 1, ordD 2, ordD 3] := rfl
    have hlk : kLk (κ := Key) [.inl 1, .inl 2, .inl 3] [ordD 1, ordD 2, ordD 3] (.inl (k : Int)) = some (ordD k) := by
      have : k = 1 ∨ k = 2 ∨ k = 3 := by omega
      rcases this with rfl | rfl | rfl <;> rfl
    have hpok : ∀ p ∈ pls, PlOk p := fun p hp => by
      obtain ⟨r, hr, h⟩ := (hpls p).mp hp
      cases p with
      | at_ i n =>
        obtain ⟨h1, h2⟩ := h
        exact ⟨by omega, ((hrs r hr).ok n (List.mem_of_getElem? h1)).2⟩
      | as_ i j d => exact Nat.ne_of_lt h.1
    have hfew8 := hfew.1
    have hpow := hfew.pow hk3 (S := pls.length + 1) (by omega)
    have hS1 : 1 ≤ pls.length + 1 := by omega
    have hpl1000 : pls.length ≤ 1000 := by omega
    walk_at "e"
    refine ds_for .never rfl (by intro _; rfl) (ts := [5]) (di_lst ?_)
    refine de_ixK hu1 (fun _ _ => rfl) ?_
    repeat walk_at "e"
    refine ⟨[.inl 1, .inl 2, .inl 3], [ordD 1, ordD 2, ordD 3], .inl (k : Int), _, .inl rfl, rfl, hlk, _, rfl, ?_⟩
    refine ⟨fun t ρ O => t ≤ (natOrders k).length ∧ ∃ (o5 o6 o7 o8 : Option D) (fl : List (List Int)), ρ = [some (lawD k sc rs), some (.int (k : Int)), some (.lst (pls.map plD)), some (rawA fp), some (.dK [.inl 1, .inl 2, .inl 3] [ordD 1, ordD 2, ordD 3]), o5, o6, o7, o8] ∧ O = [(fp, sT fl)] ∧
        fl.length ≤ t * 100000 ∧ ∀ p, p ∈ fl ↔ ∃ o ∈ (natOrders k).take t, ∃ row, LPlaced (IsPl rs) o row ∧ p = cornerP k row,
      ⟨Nat.zero_le _, _, _, _, _, [], rfl, rfl, by simp, by simp⟩, fun t d ρ O hd ⟨ht, o5, o6, o7, o8, fl, e1, e2, e3, e4⟩ => ?_, fun ρ O ⟨ht, o5, o6, o7, o8, fl, e1, e2, e3, e4⟩ => ?_⟩
    · subst e1 e2
      obtain ⟨o, ho, rfl⟩ := map_get hd
      obtain ⟨hlt, _⟩ := List.getElem?_eq_some_iff.mp ho
      have hop := order_perm k hk1 hk3 o (List.mem_of_getElem? ho)
      have hol : o.length = k := by rw [hop.length_eq, List.length_range]
      have hond : o.Nodup := hop.nodup_iff.mpr List.nodup_range
      have hos := orders_len k hk1 hk3
      walk_at "e"
      walk_at "e"
      refine ds_st hN rfl (.inl rfl) rfl (.inr rfl) ?_
      refine de_lst ?_
      walk_at "e"
      refine de_dnewKi ?_
      repeat walk_at "e"
      refine ⟨sz rfl, ?_⟩
      walk_at "e"
      refine ds_for .never rfl (by intro _; rfl) (ts := [7]) (di_lst ?_)
      repeat walk_at "e"
      refine ⟨_, rfl, ?_⟩
      rw [List.map_map]
      refine ⟨fun i ρ O => i ≤ k ∧ ∃ (o7 : Option D) (rows : List PRow), ρ = [some (lawD k sc rs), some (.int (k : Int)), some (.lst (pls.map plD)), some (rawA fp), some (.dK [.inl 1, .inl 2, .inl 3] [ordD 1, ordD 2, ordD 3]), some (liD (o.map fun (j : Nat) => (j : Int))), some (.lst (rows.map lrD)), o7, o8] ∧ O = [(fp, sT fl)] ∧
          rows.length ≤ (pls.length + 1) ^ i ∧ ∀ row, row ∈ rows ↔ LPlaced (IsPl rs) (o.take i) row,
        ⟨Nat.zero_le _, _, [[]], rfl, rfl, by simp, fun row => by rw [List.take_zero, LPlaced.nil_iff]; simp⟩, fun i d ρ O hd ⟨hi, o7, rows, e1, e2, h3, h4⟩ => ?_, fun ρ O ⟨hi, o7, rows, e1, e2, h3, h4⟩ => ?_⟩
      · subst e1 e2
        obtain ⟨c, hci, rfl⟩ := map_get hd
        obtain ⟨hltc, _⟩ := List.getElem?_eq_some_iff.mp hci
        show DG _ _ _ (.int (c : Int)) _ _ _
        have htk : o.take (i + 1) = o.take i ++ [c] := by rw [List.take_add_one, hci]; rfl
        have hb1 : rows.length * (pls.length + 1) ≤ (pls.length + 1) ^ (i + 1) := by rw [Nat.pow_succ]; exact Nat.mul_le_mul_right _ h3
        have hb2 : (pls.length + 1) ^ (i + 1) ≤ (pls.length + 1) ^ k := Nat.pow_le_pow_right hS1 (by omega)
        walk_at "e"
        walk_at "e"
        refine ds_st hN rfl (.inl rfl) rfl (.inr rfl) ?_
        refine de_c0 G2 hr (by decide) rfl (by decide) rfl rfl ?_
        repeat walk_at "e"
        refine ⟨pls, rows, o.take i, c, rfl, hpl1000, by omega, hpok, fun r hr => ((h4 r).mp hr).fst, by rw [← htk]; exact hond.sublist (List.take_sublist _ _), by rw [List.length_take]; omega, rfl, fun out hout houtl => ?_⟩
        repeat walk_at "e"
        refine ⟨by omega, _, out, rfl, rfl, by omega, fun x => ?_⟩
        rw [hout, htk, LPlaced.snoc_iff]
        constructor
        · rintro ⟨row, h1, s, h2, h5, rfl⟩
          exact ⟨row, (h4 row).mp h1, s, (LS.iff hpls).mp h2, h5, rfl⟩
        · rintro ⟨row, h1, s, h2, h5, rfl⟩
          exact ⟨row, (h4 row).mpr h1, s, (LS.iff hpls).mpr h2, h5, rfl⟩
      · subst e1 e2
        rw [List.length_map] at h3 h4
        rw [List.take_length] at h4
        rw [hol] at h3
        have hrl : rows.length ≤ 100000 := by omega
        walk_at "e"
        refine ds_for .never rfl (by intro _; rfl) (ts := [8]) (di_lst ?_)
        repeat walk_at "e"
        refine ⟨_, rfl, ?_⟩
        refine ⟨fun m ρ O => m ≤ rows.length ∧ ∃ (o8 : Option D) (fl2 : List (List Int)), ρ = [some (lawD k sc rs), some (.int (k : Int)), some (.lst (pls.map plD)), some (rawA fp), some (.dK [.inl 1, .inl 2, .inl 3] [ordD 1, ordD 2, ordD 3]), some (liD (o.map fun (j : Nat) => (j : Int))), some (.lst (rows.map lrD)), o7, o8] ∧ O = [(fp, sT fl2)] ∧
            fl2.length ≤ fl.length + m ∧ ∀ p, p ∈ fl2 ↔ p ∈ fl ∨ ∃ row ∈ rows.take m, p = cornerP k row,
          ⟨Nat.zero_le _, _, fl, rfl, rfl, by omega, by simp⟩, fun m d ρ O hd ⟨hm, o8, fl2, e1, e2, h5, h6⟩ => ?_, fun ρ O ⟨hm, o8, fl2, e1, e2, h5, h6⟩ => ?_⟩
        · subst e1 e2
          obtain ⟨row, hrw, rfl⟩ := map_get hd
          obtain ⟨hltm, _⟩ := List.getElem?_eq_some_iff.mp hrw
          have hrf := ((h4 row).mp (List.mem_of_getElem? hrw)).fst
          repeat walk_at "e"
          refine ds_asg (ts := []) ?_ rfl rfl rfl
          walk_at "e"
          refine dg_sub (set_nd hu9) (by intro _; rfl) ?_
          repeat walk_at "e"
          walk_at "tupof"
          walk_at "e"
          refine de_lc (Oz := []) (own := [("_law_kind", 7)]) rfl hN (blkOk_by (by kernel_rfl)) (by decide) (by intro _; rfl) ?_
          walk_at "rng1"
          repeat walk_at "e"
          refine ⟨_, rfl, by omega, by omega, ?_⟩
          rw [Int.toNat_natCast]
          refine lcd_map (List.range k) (fun j => .int (0 + (j : Nat))) (fun j => .int (prOf row j)) (sz1000 (by rw [List.length_range]; omega)) rfl (fun j hj => ?_) ?_
          · have hj' : j ∈ row.map (·.1) := by rw [hrf]; exact hop.mem_iff.mpr hj
            rw [Int.zero_add]
            intro _ _ _ _ _
            repeat walk_at "e"
            intro _ _ _ _ _
            refine de_ixK hu1 (fun _ _ => rfl) ?_
            repeat walk_at "e"
            exact ⟨lrK row, lrV row, .inl (j : Int), _, .inl rfl, rfl, lrK_lk hj', rfl, rfl⟩
          repeat walk_at "e"
          refine rc_tup sqd_l ?_
          have ek : D.tup ((List.range k).map fun j => D.int (prOf row j)) = kD (kT (cornerP k row)) := by
            rw [kD_T]
            unfold cornerP
            rw [List.map_map]
            rfl
          refine std_dn (ks := fl2.map kT) (ds := fl2.map fun _ => .bl true) (j := 0) ek ⟨_, rfl⟩ (kT_depth _) rfl ?_ ?_
          · rw [List.length_map]
            have : t * 100000 ≤ 600000 := Nat.mul_le_mul_right 100000 (show t ≤ 6 by omega)
            exact Nat.lt_of_lt_of_le (show _ < 2000000 by omega) (by decide)
          rw [sT_put]
          repeat walk_at "e"
          have hpl2 := putL_len fl2 (cornerP k row)
          refine ⟨hltm, _, _, rfl, rfl, by omega, fun p => ?_⟩
          rw [mem_putL, h6, List.take_add_one, hrw]
          constructor
          · rintro ((h | ⟨r0, h, h'⟩) | rfl)
            · exact .inl h
            · exact .inr ⟨r0, List.mem_append_left _ h, h'⟩
            · exact .inr ⟨row, by simp, rfl⟩
          · rintro (h | ⟨r0, h, h'⟩)
            · exact .inl (.inl h)
            · rcases List.mem_append.mp h with h | h
              · exact .inl (.inr ⟨r0, h, h'⟩)
              · simp at h; subst h
                exact .inr h'
        · subst e1 e2
          rw [List.length_map] at h5 h6
          rw [List.take_length] at h6
          repeat walk_at "e"
          refine ⟨hlt, _, _, _, _, fl2, rfl, rfl, by rw [Nat.succ_mul]; omega, fun p => ?_⟩
          rw [h6, e4, List.take_add_one, ho]
          constructor
          · rintro (⟨o', h, h'⟩ | ⟨row, h, h'⟩)
            · exact ⟨o', List.mem_append_left _ h, h'⟩
            · exact ⟨o, by simp, row, (h4 row).mp h, h'⟩
          · rintro ⟨o', h, row, h', h''⟩
            rcases List.mem_append.mp h with h | h
            · exact .inl ⟨o', h, row, h', h''⟩
            · simp at h; subst h
              exact .inr ⟨row, (h4 row).mpr h', h''⟩
    · subst e1 e2
      rw [List.length_map] at e3 e4
      rw [List.take_length] at e4
      have hos := orders_len k hk1 hk3
      walk_at "e"
      walk_at "e"
      refine de_drop ?_
      refine de_callTy (call_listN rfl) rfl B.list boot_list (by decide) (by decide) rfl rfl ?_
      repeat walk_at "e"
      refine rc_listN ⟨fp, rfl, 0, .inl rfl⟩ ⟨[], ⟨_, List.Perm.refl _, List.nil_sublist _⟩, ?_⟩
      have e : (fl.map kT).map kD = fl.map fun p => D.tup (p.map D.int) := by
        rw [List.map_map]
        apply List.map_congr_left
        intro p _
        exact kD_T p
      rw [e]
      exact kk fl e4 (Nat.le_trans e3 (Nat.mul_le_mul_right 100000 (show (natOrders k).length ≤ 6 from hos)))
end
end
section
/-! ### cell places -/
def lawOrds : Nat → List (List Int)
  | 0 => [[]]
  | i + 1 => putInF (lawOrds i) ((i : Int) - 1)
theorem lawOrds_len : ∀ i, i ≤ 3 → (lawOrds i).length ≤ 30 ∧ ∀ o ∈ lawOrds i, o.length ≤ 5 := by
  intro i h
  have : i = 0 ∨ i = 1 ∨ i = 2 ∨ i = 3 := by omega
  rcases this with rfl | rfl | rfl | rfl <;> decide +kernel
theorem lawOrds_mem : ∀ k, 1 ≤ k → k ≤ 3 → (lawOrds (k + 1)).length ≤ 24 ∧ ∀ o ∈ lawOrds (k + 1), (-1 : Int) ∈ o ∧ ∀ j ∈ rngI 0 k, j ∈ o := by
  intro k h1 h2
  have : k = 1 ∨ k = 2 ∨ k = 3 := by omega
  rcases this with rfl | rfl | rfl <;> decide +kernel
def stepsF (k : Nat) : List (List Int) := (lawOrds (k + 1)).map fun o => (rngI 0 k).map fun j => idx o j - idx o (-1)
def addL (p s : List Int) : List Int := (p.zip s).map fun q => q.1 + q.2
def IsPlace (A : Pl → Prop) (k : Nat) (q : List Int) : Prop := ∃ p, LCorner A k p ∧ ∃ s ∈ stepsF k, q = addL p s ∧ ∀ x ∈ q, 0 < x
def fsPlaces : FS := fun ds O post => ∃ (k : Nat) (s : Int) (rs : List WRow), ds = [lawD k s rs] ∧ 1 ≤ k ∧ k ≤ 3 ∧ Few k rs.length ∧ (∀ r ∈ rs, LOk k 100 r) ∧ O = [] ∧ ∀ L : List (List Int), (∀ p, p ∈ L ↔ IsPlace (IsPl rs) k p) → post (.lst (L.map fun p => .tup (p.map .int))) []
abbrev sPlaces : Stmt := topS 64
theorem scPlaces : FnScope ["_law_bids", "_law_kinds", "_law_found", "_law_orders", "_law_kind", "_law_steps", "_law_corner", "_law_row", "_law_place", "_law_order", "_law_price", "_law_step"] ["_law_bids"] (defScope sPlaces) := ⟨rfl, rfl, rfl, by decide +kernel, rfl, by decide +kernel, by decide +kernel⟩
section
variable {P : Program} {w : World} {K : PySem.W.Frag} {mg : Str → Option Value} {base : Heap} {f : Addr} {fd : FuncData}
theorem ok_places (F : FnP K "_law_cell_places" sPlaces f fd) (B : Bn mg) (G1 : Std P w K mg base 1 "_law_put_in" ["_law_orders", "_law_one"] fsPutIn) (G2 : Std P w K mg base 2 "_law_corners" ["_law_bids"] fsLCorners) : FnOk P w K mg base CX0 3 f fd ["_law_bids"] (spD P w fsPlaces) := by
  refine fokX F scPlaces (fun ds O post h => ?_) (fun cdv A outer s H E ds O post hr h => ?_)
  · obtain ⟨a, b, c, rfl, _⟩ := h; rfl
  · obtain ⟨k, sc, rs, rfl, hk1, hk3, hfew, hrs, rfl, kk⟩ := h
    have hN := scPlaces.nd
    have hu1 := room1 hr
    have hu9 := room9 hr
    walk_at "e"
    refine ds_asg (ts := [1, 2]) ?_ rfl rfl rfl
    refine de_tup ?_
    walk_at "e"
    refine de_ixK hu1 (fun _ _ => rfl) ?_
    repeat walk_at "e"
    refine ⟨lawKs, _, .inr "kinds", _, .inl rfl, rfl, lawL1, ?_⟩
    walk_at "e"
    refine de_dnewN fun fp => ?_
    repeat walk_at "e"
    refine ⟨sz rfl, ?_⟩
    repeat walk_at "e"
    refine de_lst ?_
    walk_at "e"
    refine de_lst ?_
    repeat walk_at "e"
    refine ⟨sz rfl, ?_⟩
    repeat walk_at "e"
    refine ⟨sz rfl, ?_⟩
    walk_at "e"
    refine ds_for .never rfl (by intro _; rfl) (ts := [4]) ?_
    refine di_rng2 rfl B.range rfl rfl ?_
    repeat walk_at "e"
    refine ⟨_, _, rfl, ⟨by omega, by omega, by omega, by omega⟩, ?_⟩
    have hkn : ((k : Int) - -1).toNat = k + 1 := by omega
    rw [hkn]
    refine ⟨fun i ρ O => i ≤ k + 1 ∧ ∃ (o4 : Option D), ρ = [some (lawD k sc rs), some (.int (k : Int)), some (rawA fp), some (.lst ((lawOrds i).map liD)), o4, none, none, none, none, none, none, none] ∧ O = [(fp, sT [])],
      ⟨Nat.zero_le _, _, rfl, rfl⟩, fun i d ρ O hd ⟨hi, o4, e1, e2⟩ => ?_, fun ρ O ⟨hi, o4, e1, e2⟩ => ?_⟩
    · subst e1 e2
      obtain ⟨hlt, rfl⟩ := rngD_get hd
      obtain ⟨l1, l2⟩ := lawOrds_len i (by omega)
      repeat walk_at "e"
      refine de_c0 G1 hr (by decide) rfl (by decide) rfl rfl ?_
      repeat walk_at "e"
      refine ⟨lawOrds i, _, rfl, l1, l2, rfl, ?_⟩
      repeat walk_at "e"
      refine ⟨hlt, some (.int (-1 + (i : Nat))), ?_, rfl⟩
      have : (-1 + (i : Int)) = (i : Int) - 1 := by omega
      rw [this]
      rfl
    · subst e1 e2
      rw [rngD_length]
      obtain ⟨hol, hom⟩ := lawOrds_mem k hk1 hk3
      walk_at "e"
      refine ds_setLc (Oz := []) (i := 5) (own := [("_law_order", 9)]) rfl hN rfl rfl rfl (blkOk_by (by kernel_rfl)) (by decide) (by intro _; rfl) (di_lst ?_)
      repeat walk_at "e"
      refine ⟨_, rfl, lcd_map (lawOrds (k + 1)) liD (fun o => liD ((rngI 0 k).map fun j => idx o j - idx o (-1))) (sz1000 (by omega)) rfl (fun o ho => ?_) ?_⟩
      · obtain ⟨hm1, hmj⟩ := hom o ho
        intro _ _ _ _ _
        repeat walk_at "e"
        intro _ _ _ _ _
        refine de_lc (Oz := []) (own := [("_law_kind", 4)]) rfl hN (blkOk_by (by kernel_rfl)) (by decide) (by intro _; rfl) ?_
        walk_at "rng1"
        repeat walk_at "e"
        refine ⟨_, rfl, by omega, by omega, ?_⟩
        rw [rngD_ints, Int.toNat_natCast]
        refine lcd_map (rngI 0 k) D.int (fun j => .int (idx o j - idx o (-1))) (sz1000 (by simp [rngI]; omega)) rfl (fun j hj => ?_) ?_
        · obtain ⟨g1, g2⟩ := idx_get (hmj j hj)
          obtain ⟨g3, g4⟩ := idx_get hm1
          unfold liD
          intro _ _ _ _ _
          repeat walk_at "e"
          intro _ _ _ _ _
          refine de_op op_sub ?_
          refine de_index rfl rfl rfl rfl rfl ?_
          repeat walk_at "e"
          refine ⟨⟨_, rfl⟩, ?_⟩
          repeat walk_at "e"
          refine ⟨o, j, _, rfl, rfl, g1, g2, ?_⟩
          refine de_index rfl rfl rfl rfl rfl ?_
          repeat walk_at "e"
          refine ⟨⟨_, rfl⟩, ?_⟩
          repeat walk_at "e"
          refine ⟨o, -1, _, rfl, rfl, g3, g4, rd_I0 ⟨rfl, rfl⟩⟩
        · refine ⟨?_, rfl⟩
          unfold liD
          rw [List.map_map]
          rfl
      have eS : ((lawOrds (k + 1)).map fun o => liD ((rngI 0 k).map fun j => idx o j - idx o (-1))) = (stepsF k).map liD := by unfold stepsF; rw [List.map_map]; rfl
      rw [eS]
      have hsl : (stepsF k).length ≤ 24 := by unfold stepsF; rw [List.length_map]; exact hol
      have hsk : ∀ s ∈ stepsF k, s.length = k := fun s hs => by
        obtain ⟨o, _, rfl⟩ := List.mem_map.mp hs
        rw [List.length_map]
        simp [rngI]
      walk_at "e"
      refine ds_for .never rfl (by intro _; rfl) (ts := [6]) (di_lst ?_)
      refine de_c0 G2 hr (by decide) rfl (by decide) rfl rfl ?_
      repeat walk_at "e"
      refine ⟨k, sc, rs, rfl, hk1, hk3, hfew, hrs, rfl, fun L hL hLl => ⟨_, rfl, ?_⟩⟩
      have hLk : ∀ p ∈ L, p.length = k := fun p hp => by
        obtain ⟨o, _, row, _, rfl⟩ := (hL p).mp hp
        unfold cornerP
        rw [List.length_map, List.length_range]
      refine ⟨fun t ρ O => t ≤ L.length ∧ ∃ (o6 o7 o8 : Option D) (fl : List (List Int)), ρ = [some (lawD k sc rs), some (.int (k : Int)), some (rawA fp), some (.lst ((lawOrds (k + 1)).map liD)), o4, some (.lst ((stepsF k).map liD)), o6, o7, o8, none, none, none] ∧ O = [(fp, sT fl)] ∧ fl.length ≤ t * 24 ∧ ∀ q, q ∈ fl ↔ ∃ p ∈ L.take t, ∃ s ∈ stepsF k, q = addL p s ∧ ∀ x ∈ q, 0 < x,
        ⟨Nat.zero_le _, _, _, _, [], rfl, rfl, by simp, by simp⟩, fun t d ρ O hd ⟨ht, o6, o7, o8, fl, e1, e2, e3, e4⟩ => ?_, fun ρ O ⟨ht, o6, o7, o8, fl, e1, e2, e3, e4⟩ => ?_⟩
      · subst e1 e2
        obtain ⟨p, hpi, rfl⟩ := map_get hd
        obtain ⟨hlt, _⟩ := List.getElem?_eq_some_iff.mp hpi
        have hpk := hLk p (List.mem_of_getElem? hpi)
        walk_at "e"
        walk_at "e"
        refine ds_for .never rfl (by intro _; rfl) (ts := [7]) (di_lst ?_)
        repeat walk_at "e"
        refine ⟨_, rfl, ?_⟩
        refine ⟨fun m ρ O => m ≤ (stepsF k).length ∧ ∃ (o7 o8 : Option D) (fl2 : List (List Int)), ρ = [some (lawD k sc rs), some (.int (k : Int)), some (rawA fp), some (.lst ((lawOrds (k + 1)).map liD)), o4, some (.lst ((stepsF k).map liD)), some (.tup (p.map D.int)), o7, o8, none, none, none] ∧ O = [(fp, sT fl2)] ∧ fl2.length ≤ fl.length + m ∧ ∀ q, q ∈ fl2 ↔ q ∈ fl ∨ ∃ s ∈ (stepsF k).take m, q = addL p s ∧ ∀ x ∈ q, 0 < x,
          ⟨Nat.zero_le _, _, _, fl, rfl, rfl, by omega, by simp⟩, fun m d ρ O hd ⟨hm, o7, o8, fl2, e1, e2, h5, h6⟩ => ?_, fun ρ O ⟨hm, o7, o8, fl2, e1, e2, h5, h6⟩ => ?_⟩
        · subst e1 e2
          obtain ⟨st, hsi, rfl⟩ := map_get hd
          obtain ⟨hltm, _⟩ := List.getElem?_eq_some_iff.mp hsi
          have hstk := hsk st (List.mem_of_getElem? hsi)
          have hlen : (addL p st).length = k := by unfold addL; rw [List.length_map, List.length_zip]; omega
          have htk : ∀ q, (∃ s ∈ (stepsF k).take (m + 1), q = addL p s ∧ ∀ x ∈ q, 0 < x) ↔ (∃ s ∈ (stepsF k).take m, q = addL p s ∧ ∀ x ∈ q, 0 < x) ∨ (q = addL p st ∧ ∀ x ∈ q, 0 < x) := fun q => by
            rw [List.take_add_one, hsi]
            constructor
            · rintro ⟨s, h, h'⟩
              rcases List.mem_append.mp h with h | h
              · exact .inl ⟨s, h, h'⟩
              · simp at h; subst h; exact .inr h'
            · rintro (⟨s, h, h'⟩ | h)
              · exact ⟨s, List.mem_append_left _ h, h'⟩
              · exact ⟨st, by simp, h⟩
          unfold liD
          walk_at "e"
          walk_at "e"
          refine ds_st hN rfl (.inl rfl) rfl (.inr rfl) ?_
          walk_at "tupof"
          walk_at "e"
          refine de_lc (Oz := []) (own := [("_law_price", 10), ("_law_step", 11)]) rfl hN (blkOk_by (by kernel_rfl)) (by decide) (by intro _; rfl) ?_
          refine di_zipM rfl B.zip rfl rfl ?_
          repeat walk_at "e"
          refine ⟨_, _, rfl, ?_⟩
          rw [pairD_ints]
          refine lcd_map (p.zip st) _ (fun q => .int (q.1 + q.2)) (sz1000 (by rw [List.length_zip]; omega)) rfl (fun q hq => ?_) ?_
          · intro _ _ _ _ _
            repeat walk_at "e"
            intro _ _ _ _ _
            refine de_op op_add ?_
            repeat walk_at "e"
            exact rd_I0 ⟨rfl, rfl⟩
          have eA : (p.zip st).map (fun q => D.int (q.1 + q.2)) = (addL p st).map D.int := by unfold addL; rw [List.map_map]; rfl
          rw [eA]
          repeat walk_at "e"
          refine rc_tup sqd_l ?_
          repeat walk_at "e"
          refine dt_cmpR op_gt (nomark _) ?_
          walk_at "min"
          repeat walk_at "e"
          refine rc_min sqd_t (by intro e; rw [e] at hlen; simp at hlen; omega) fun mn hmn1 hmn2 => ?_
          repeat walk_at "e"
          refine rd_B0 ⟨_, rfl, ?_⟩
          by_cases h0 : 0 < mn
          · have hall : ∀ x ∈ addL p st, 0 < x := fun x hx => Int.lt_of_lt_of_le h0 (hmn2 x hx)
            refine iT (decide_eq_true h0) ?_
            walk_at "e"
            refine ds_asg (ts := []) ?_ rfl rfl rfl
            walk_at "e"
            refine dg_sub (set_nd hu9) (by intro _; rfl) ?_
            repeat walk_at "e"
            refine std_dn (ks := fl2.map kT) (ds := fl2.map fun _ => .bl true) (j := 0) (k := kT (addL p st)) (kD_T _).symm ⟨_, rfl⟩ (kT_depth _) rfl ?_ ?_
            · rw [List.length_map]
              have : t * 24 ≤ 599999 * 24 := Nat.mul_le_mul_right 24 (show t ≤ 599999 by omega)
              exact Nat.lt_of_lt_of_le (show _ < 16000000 by omega) (by decide)
            rw [sT_put]
            repeat walk_at "e"
            have hpl2 := putL_len fl2 (addL p st)
            refine ⟨hltm, _, _, _, rfl, rfl, by omega, fun q => ?_⟩
            rw [mem_putL, h6, htk]
            constructor
            · rintro ((h | h) | h)
              · exact .inl h
              · exact .inr (.inl h)
              · exact .inr (.inr ⟨h, by rw [h]; exact hall⟩)
            · rintro (h | h | h)
              · exact .inl (.inl h)
              · exact .inl (.inr h)
              · exact .inr h.1
          · refine iF (decide_eq_false h0) ?_
            repeat walk_at "e"
            refine ⟨hltm, _, _, fl2, rfl, rfl, by omega, fun q => ?_⟩
            rw [h6, htk]
            constructor
            · exact fun h => h.imp id .inl
            · rintro (h | h | ⟨rfl, h⟩)
              · exact .inl h
              · exact .inr h
              · exact absurd (h mn hmn1) h0
        · subst e1 e2
          rw [List.length_map] at h5 h6
          rw [List.take_length] at h6
          repeat walk_at "e"
          refine ⟨hlt, _, _, _, fl2, rfl, rfl, by rw [Nat.succ_mul]; omega, fun q => ?_⟩
          rw [h6, e4, List.take_add_one, hpi]
          constructor
          · rintro (⟨p', h, h'⟩ | h)
            · exact ⟨p', List.mem_append_left _ h, h'⟩
            · exact ⟨p, by simp, h⟩
          · rintro ⟨p', h, h'⟩
            rcases List.mem_append.mp h with h | h
            · exact .inl ⟨p', h, h'⟩
            · simp at h; subst h
              exact .inr h'
      · subst e1 e2
        rw [List.length_map, List.take_length] at e4
        walk_at "e"
        walk_at "e"
        refine de_drop ?_
        refine de_callTy (call_listN rfl) rfl B.list boot_list (by decide) (by decide) rfl rfl ?_
        repeat walk_at "e"
        refine rc_listN ⟨fp, rfl, 0, .inl rfl⟩ ⟨[], ⟨_, List.Perm.refl _, List.nil_sublist _⟩, ?_⟩
        have e : (fl.map kT).map kD = fl.map fun p => D.tup (p.map D.int) := by
          rw [List.map_map]
          apply List.map_congr_left
          intro p _
          exact kD_T p
        rw [e]
        refine kk fl fun q => ?_
        rw [e4]
        unfold IsPlace
        constructor
        · rintro ⟨p, h1, h2⟩
          exact ⟨p, (hL p).mp h1, h2⟩
        · rintro ⟨p, h1, h2⟩
          exact ⟨p, (hL p).mpr h1, h2⟩
end
end
section
/-! ### units -/
def unitsG (best : List Int → Int) (rs : List WRow) (j : Int) : Int := ((rs.filter fun r => decide (best r.2 = j)).map (·.1)).sum
theorem unitsG_snoc (best : List Int → Int) (rs : List WRow) (r : WRow) (j : Int) : unitsG best (rs ++ [r]) j = unitsG best rs j + if best r.2 = j then r.1 else 0 := by
  unfold unitsG
  rw [List.filter_append, List.map_append, List.sum_append]
  by_cases h : best r.2 = j
  · simp [h]
  · simp [h]
def fsLUnits : FS := fun ds O post => ∃ (k : Nat) (s : Int) (rs : List WRow) (ps : List Int) (best : List Int → Int), ds = [lawD k s rs, .tup (ps.map .int)] ∧ 1 ≤ k ∧ k ≤ 3 ∧ rs.length ≤ 50 ∧ (∀ r ∈ rs, LOk k 100 r) ∧ (∀ r ∈ rs, -1 ≤ best r.2 ∧ best r.2 < k ∧ ∀ t, IsTop (worthsF r.2 ps) t → bestsL (worthsF r.2 ps) t = [best r.2]) ∧ O = [] ∧
  post (liD ((rngI 0 k).map fun j => unitsG best rs j)) []
abbrev sLUnits : Stmt := topS 67
theorem scLUnits : FnScope ["_law_bids", "_law_prices", "_law_found", "_law_weight", "_law_numbers_here", "_law_best"] ["_law_bids", "_law_prices"] (defScope sLUnits) := ⟨rfl, rfl, rfl, by decide +kernel, rfl, by decide +kernel, by decide +kernel⟩
section
variable {P : Program} {w : World} {K : PySem.W.Frag} {mg : Str → Option Value} {base : Heap} {f : Addr} {fd : FuncData}
theorem ok_lunits (F : FnP K "_law_units" sLUnits f fd) (B : Bn mg) (G : Std P w K mg base 1 "_law_bests" ["_law_numbers_here", "_law_prices"] fsBests) : FnOk P w K mg base CX0 2 f fd ["_law_bids", "_law_prices"] (spD P w fsLUnits) := by
  refine fokX F scLUnits (fun ds O post h => ?_) (fun cdv A outer s H E ds O post hr h => ?_)
  · obtain ⟨a, b, c, d, e, rfl, _⟩ := h; rfl
  · obtain ⟨k, sc, rs, ps, best, rfl, hk1, hk3, hrl, hrs, hb, rfl, kk⟩ := h
    have hN := scLUnits.nd
    have hu1 := room1 hr
    walk_at "e"
    refine ds_st hN rfl (.inl rfl) rfl (.inr rfl) ?_
    refine de_op op_rep ?_
    refine de_lst ?_
    repeat walk_at "e"
    refine ⟨sz rfl, ?_⟩
    refine de_ixK hu1 (fun _ _ => rfl) ?_
    repeat walk_at "e"
    refine ⟨lawKs, _, .inr "kinds", _, .inl rfl, rfl, lawL1, ?_⟩
    refine rd_repO rfl ⟨by omega, by omega⟩ (sz1000 (by simp; omega)) fun fp => ?_
    have e0 : (List.replicate ((k : Int)).toNat [D.int 0]).flatten = ((rngI 0 k).map fun j => unitsG best [] j).map D.int := by
      rw [Int.toNat_natCast]
      unfold rngI unitsG
      have : k = 1 ∨ k = 2 ∨ k = 3 := by omega
      rcases this with rfl | rfl | rfl <;> rfl
    rw [e0]
    walk_at "e"
    refine ds_for .never rfl (by intro _; rfl) (ts := [3, 4]) (di_lst ?_)
    refine de_ixK hu1 (fun _ _ => rfl) ?_
    repeat walk_at "e"
    refine ⟨lawKs, _, .inr "rows", _, .inl rfl, rfl, lawL3, _, rfl, ?_⟩
    refine ⟨fun i ρ O => i ≤ rs.length ∧ ∃ (o3 o4 o5 : Option D), ρ = [some (lawD k sc rs), some (.tup (ps.map D.int)), some (rawA fp), o3, o4, o5] ∧ O = [(fp, .lst (((rngI 0 k).map fun j => unitsG best (rs.take i) j).map D.int))],
      ⟨Nat.zero_le _, _, _, _, rfl, rfl⟩, fun i d ρ O hd ⟨hi, o3, o4, o5, e1, e2⟩ => ?_, fun ρ O ⟨hi, o3, o4, o5, e1, e2⟩ => ?_⟩
    · subst e1 e2
      obtain ⟨r, hri, rfl⟩ := map_get hd
      obtain ⟨hlt, _⟩ := List.getElem?_eq_some_iff.mp hri
      have hro := hrs r (List.mem_of_getElem? hri)
      obtain ⟨hb1, hb2, hb3⟩ := hb r (List.mem_of_getElem? hri)
      have htk : rs.take (i + 1) = rs.take i ++ [r] := by rw [List.take_add_one, hri]; rfl
      unfold lrowD
      repeat walk_at "e"
      refine de_c0 G hr (by decide) rfl (by decide) rfl rfl ?_
      repeat walk_at "e"
      refine ⟨r.2, ps, rfl, by rw [hro.len]; exact hk3, hro.ok, rfl, fun t ht => ?_⟩
      rw [hb3 t ht]
      repeat walk_at "e"
      refine dt_cmpR op_gt (nomark _) ?_
      walk_at "len"
      repeat walk_at "e"
      refine rc_len sqd_t ?_
      repeat walk_at "e"
      refine rd_B0 ⟨_, rfl, iF (by simp) ?_⟩
      repeat walk_at "e"
      refine dt_cmpR op_ge (nomark _) ?_
      refine de_ix (fun _ _ => rfl) ?_
      repeat walk_at "e"
      refine ⟨_, _, _, sqd_t, rfl, rfl, ?_⟩
      repeat walk_at "e"
      refine rd_B0 ⟨_, rfl, ?_⟩
      by_cases h0 : 0 ≤ best r.2
      · obtain ⟨n, hn⟩ := Int.eq_ofNat_of_zero_le h0
        rw [hn] at hb2
        have hnk : n < k := by omega
        have hlen : ((rngI 0 k).map fun j => unitsG best (rs.take i) j).length = k := by simp [rngI]
        have hget : ((rngI 0 k).map fun j => unitsG best (rs.take i) j)[n]? = some (unitsG best (rs.take i) (n : Int)) := by
          unfold rngI
          rw [List.map_map, List.getElem?_map, List.getElem?_range hnk]
          simp
        refine iT (by simpa using h0) ?_
        walk_at "e"
        refine ds_asg (ts := []) ?_ rfl rfl rfl
        refine de_op op_add ?_
        refine de_ix (fun _ _ => rfl) ?_
        repeat walk_at "e"
        refine de_ix (fun _ _ => rfl) ?_
        repeat walk_at "e"
        refine ⟨_, _, _, sqd_t, rfl, rfl, ?_⟩
        rw [hn]
        refine ⟨_, _, _, sqd_own (i := 0) rfl, rfl, atI_nat (map_at hget), ?_⟩
        repeat walk_at "e"
        refine rd_I0 ?_
        refine dg_sub set_list (by intro _; rfl) ?_
        repeat walk_at "e"
        refine de_ix (fun _ _ => rfl) ?_
        repeat walk_at "e"
        refine ⟨_, _, _, sqd_t, rfl, rfl, ?_⟩
        have hix : ixN (((rngI 0 k).map fun j => unitsG best (rs.take i) j).map D.int).length (n : Int) = some n := by
          rw [List.length_map, hlen]
          unfold ixN
          simp
          omega
        refine std_list (j := 0) rfl hix ?_
        repeat walk_at "e"
        refine ⟨hlt, _, _, _, rfl, ?_⟩
        have : ((rngI 0 k).map fun j => unitsG best (rs.take (i + 1)) j) = ((rngI 0 k).map fun j => unitsG best (rs.take i) j).set n (unitsG best (rs.take i) (n : Int) + r.1) := by
          apply List.ext_getElem?
          intro m
          by_cases hm : m < k
          · have e1 : (rngI 0 k)[m]? = some (m : Int) := by unfold rngI; rw [List.getElem?_map, List.getElem?_range hm]; simp
            rw [List.getElem?_map, e1, htk]
            show some (unitsG best (rs.take i ++ [r]) (m : Int)) = _
            rw [unitsG_snoc]
            by_cases hnm : n = m
            · subst hnm
              rw [List.getElem?_set_self (by rw [hlen]; exact hm), if_pos hn]
            · rw [List.getElem?_set_ne hnm, List.getElem?_map, e1, if_neg (by omega), Int.add_zero]
              rfl
          · rw [List.getElem?_eq_none (by simp [rngI]; omega), List.getElem?_eq_none (by rw [List.length_set, hlen]; omega)]
        show _ = [(fp, MO.lst (((rngI 0 k).map fun j => unitsG best (rs.take (i + 1)) j).map D.int))]
        rw [this, List.map_set]
        rfl
      · refine iF (by simpa using h0) ?_
        repeat walk_at "e"
        refine ⟨hlt, _, _, _, rfl, ?_⟩
        have : ((rngI 0 k).map fun j => unitsG best (rs.take (i + 1)) j) = (rngI 0 k).map fun j => unitsG best (rs.take i) j := by
          apply List.map_congr_left
          intro j hj
          obtain ⟨m, _, rfl⟩ := List.mem_map.mp hj
          rw [htk, unitsG_snoc, if_neg (by omega), Int.add_zero]
        show _ = [(fp, MO.lst (((rngI 0 k).map fun j => unitsG best (rs.take (i + 1)) j).map D.int))]
        rw [this]
        rfl
    · subst e1 e2
      rw [List.length_map, List.take_length]
      walk_at "e"
      walk_at "e"
      refine de_fz (i := 0) ?_
      repeat walk_at "e"
      exact ⟨fp, _, rfl, rfl, rfl, kk⟩
end
end
section
/-! ### units told -/
def redP (a b : Int) : Int × Int := (a / Int.gcd a b, b / Int.gcd a b)
def worthT (s : Int) (q : Int × (Int × Int)) : Int × Int := if 0 < q.1 then redP ((redS s q.1).1 * q.2.2 - q.2.1 * (redS s q.1).2) ((redS s q.1).2 * q.2.2) else (-1, 1)
def worthsT (s : Int) (ns : List Int) (ps : List (Int × Int)) : List (Int × Int) := (0, 1) :: (ns.zip ps).map (worthT s)
def upT (t w : Int × Int) : Int × Int := if t.1 * w.2 < w.1 * t.2 then w else t
def topT (W : List (Int × Int)) : Int × Int := W.foldl upT (0, 1)
def bestsT (W : List (Int × Int)) : List Int := (W.zipIdx.filter fun p => decide (p.1 = topT W)).map fun p => (p.2 : Int) - 1
theorem fold_upT : ∀ (l : List (Int × Int)) (t : Int × Int), l.foldl upT t = t ∨ l.foldl upT t ∈ l
  | [], t => .inl rfl
  | w :: l, t => by
    rw [List.foldl_cons]
    rcases fold_upT l (upT t w) with h | h
    · rw [h]
      unfold upT
      split
      · exact .inr List.mem_cons_self
      · exact .inl rfl
    · exact .inr (List.mem_cons_of_mem _ h)
theorem redP_pos {a b : Int} (hb : 0 < b) (hb2 : b ≤ 1999) : 0 < (redP a b).2 ∧ (redP a b).2 ≤ 1999 := by
  unfold redP
  have hg : (0 : Int) < Int.gcd a b := by exact_mod_cast Int.gcd_pos_of_ne_zero_right a (by omega)
  refine ⟨Int.ediv_pos_of_pos_of_dvd hb (by omega) (Int.gcd_dvd_right a b), ?_⟩
  have := Int.ediv_le_self (b := (Int.gcd a b : Int)) (show 0 ≤ b by omega)
  show b / (Int.gcd a b : Int) ≤ 1999
  omega
theorem redS_den {s n : Int} (hs : 0 < s) (hs2 : s ≤ 10) : 0 < (redS s n).2 ∧ (redS s n).2 ≤ 10 := by
  unfold redS
  have hg : (0 : Int) < Int.gcd n s := by exact_mod_cast Int.gcd_pos_of_ne_zero_right n (by omega)
  refine ⟨Int.ediv_pos_of_pos_of_dvd hs (by omega) (Int.gcd_dvd_right n s), ?_⟩
  have := Int.ediv_le_self (b := (Int.gcd n s : Int)) (show 0 ≤ s by omega)
  show s / (Int.gcd n s : Int) ≤ 10
  omega
theorem worthT_pos {s : Int} (hs : 0 < s) (hs2 : s ≤ 10) {q : Int × (Int × Int)} (h1 : 0 < q.2.2) (h2 : q.2.2 ≤ 199) : 0 < (worthT s q).2 ∧ (worthT s q).2 ≤ 1999 := by
  unfold worthT
  split
  · obtain ⟨a, b⟩ := redS_den (n := q.1) hs hs2
    have h3 : 0 < (redS s q.1).2 * q.2.2 := Int.mul_pos a h1
    have h4 : (redS s q.1).2 * q.2.2 ≤ 10 * 199 := Int.mul_le_mul b h2 (by omega) (by omega)
    exact redP_pos h3 (by omega)
  · exact ⟨by decide, by decide⟩
def fsTold2 : FS := fun ds O post => ∃ (k : Nat) (s : Int) (rs : List WRow) (ps : List (Int × Int)) (best : List Int → Int), ds = [lawD k s rs, .tup (ps.map pD)] ∧ 1 ≤ k ∧ k ≤ 3 ∧ 0 < s ∧ s ≤ 10 ∧ rs.length ≤ 50 ∧ (∀ r ∈ rs, LOk k 100 r) ∧ ps.length = k ∧ (∀ p ∈ ps, 0 < p.2 ∧ p.2 ≤ 199) ∧ (∀ r ∈ rs, -1 ≤ best r.2 ∧ best r.2 < k ∧ bestsT (worthsT s r.2 ps) = [best r.2]) ∧ O = [] ∧
  post (liD ((rngI 0 k).map fun j => unitsG best rs j)) []
abbrev sTold2 : Stmt := topS 68
theorem scTold2 : FnScope ["_law_bids", "_law_prices", "_law_found", "_law_weight", "_law_numbers_here", "_law_worths", "_law_b", "_law_price", "_law_top", "_law_worth", "_law_best", "_law_k"] ["_law_bids", "_law_prices"] (defScope sTold2) := ⟨rfl, rfl, rfl, by decide +kernel, rfl, by decide +kernel, by decide +kernel⟩
theorem pairD_np (xs : List Int) (ys : List (Int × Int)) : pairD (xs.map D.int) (ys.map pD) = (xs.zip ys).map fun q => .tup [.int q.1, pD q.2] := by
  unfold pairD
  rw [List.zip_map, List.map_map]
  rfl
theorem eqv_pD (a b : Int × Int) : PyData.eqv (pyD (pD a)) (pyD (pD b)) = decide (a = b) := by
  obtain ⟨a1, a2⟩ := a
  obtain ⟨b1, b2⟩ := b
  rw [Bool.eq_iff_iff]
  simp [pD, pyD, pyDs, PyData.eqv, PyData.eqvAll]
theorem enumD_map {α : Type} (W : List α) (f : α → D) : enumD (W.map f) = W.zipIdx.map fun p => .tup [.int (p.2 : Nat), f p.1] := by
  unfold enumD
  rw [List.zipIdx_map, List.map_map]
  rfl
theorem shape_pD (a : Int × Int) : SeqAt.shaped (pyD (pD a)) = true := shaped_of rfl (by unfold pD; rw [pyD, PyData.depth]; simp [pyDs, pyD, PyData.depthAll, PyData.depth])
section
variable {P : Program} {w : World} {K : PySem.W.Frag} {mg : Str → Option Value} {base : Heap} {f : Addr} {fd : FuncData}
theorem ok_told2 (F : FnP K "_law_units_told" sTold2 f fd) (B : Bn mg) (G1 : Std P w K mg base 2 "_law_q" ["_law_top", "_law_bottom"] fsQ) (G2 : Std P w K mg base 3 "_law_minus" ["_law_one", "_law_two_here"] fsMinus) (G3 : Std P w K mg base 1 "_law_less" ["_law_one", "_law_two_here"] fsLt) : FnOk P w K mg base CX0 4 f fd ["_law_bids", "_law_prices"] (spD P w fsTold2) := by
  refine fokX F scTold2 (fun ds O post h => ?_) (fun cdv A outer s H E ds O post hr h => ?_)
  · obtain ⟨a, b, c, d, e, rfl, _⟩ := h; rfl
  · obtain ⟨k, sc, rs, ps, best, rfl, hk1, hk3, hs0, hs1, hrl, hrs, hpk, hps, hb, rfl, kk⟩ := h
    have hN := scTold2.nd
    have hu1 := room1 hr
    walk_at "e"
    refine ds_st hN rfl (.inl rfl) rfl (.inr rfl) ?_
    refine de_op op_rep ?_
    refine de_lst ?_
    repeat walk_at "e"
    refine ⟨sz rfl, ?_⟩
    refine de_ixK hu1 (fun _ _ => rfl) ?_
    repeat walk_at "e"
    refine ⟨lawKs, _, .inr "kinds", _, .inl rfl, rfl, lawL1, ?_⟩
    refine rd_repO rfl ⟨by omega, by omega⟩ (sz1000 (by simp; omega)) fun fp => ?_
    have e0 : (List.replicate ((k : Int)).toNat [D.int 0]).flatten = ((rngI 0 k).map fun j => unitsG best [] j).map D.int := by
      rw [Int.toNat_natCast]
      unfold rngI unitsG
      have : k = 1 ∨ k = 2 ∨ k = 3 := by omega
      rcases this with rfl | rfl | rfl <;> rfl
    rw [e0]
    walk_at "e"
    refine ds_for .never rfl (by intro _; rfl) (ts := [3, 4]) (di_lst ?_)
    refine de_ixK hu1 (fun _ _ => rfl) ?_
    repeat walk_at "e"
    refine ⟨lawKs, _, .inr "rows", _, .inl rfl, rfl, lawL3, _, rfl, ?_⟩
    refine ⟨fun i ρ O => i ≤ rs.length ∧ ∃ (o3 o4 o5 o6 o7 o8 o9 o10 : Option D), ρ = [some (lawD k sc rs), some (.tup (ps.map pD)), some (rawA fp), o3, o4, o5, o6, o7, o8, o9, o10, none] ∧ O = [(fp, .lst (((rngI 0 k).map fun j => unitsG best (rs.take i) j).map D.int))],
      ⟨Nat.zero_le _, _, _, _, _, _, _, _, _, rfl, rfl⟩, fun i d ρ O hd ⟨hi, o3, o4, o5, o6, o7, o8, o9, o10, e1, e2⟩ => ?_, fun ρ O ⟨hi, o3, o4, o5, o6, o7, o8, o9, o10, e1, e2⟩ => ?_⟩
    · subst e1 e2
      obtain ⟨r, hri, rfl⟩ := map_get hd
      obtain ⟨hlt, _⟩ := List.getElem?_eq_some_iff.mp hri
      have hro := hrs r (List.mem_of_getElem? hri)
      obtain ⟨hb1, hb2, hb3⟩ := hb r (List.mem_of_getElem? hri)
      have htk : rs.take (i + 1) = rs.take i ++ [r] := by rw [List.take_add_one, hri]; rfl
      unfold lrowD
      repeat walk_at "e"
      refine de_lstO ?_
      repeat walk_at "e"
      refine ⟨sz rfl, ?_⟩
      repeat walk_at "e"
      refine ⟨sz rfl, fun wp => ?_⟩
      walk_at "e"
      refine ds_for .never rfl (by intro _; rfl) (ts := [6, 7]) ?_
      refine di_zipT rfl B.zip rfl rfl ?_
      repeat walk_at "e"
      refine ⟨_, _, rfl, ?_⟩
      rw [pairD_np]
      have hzl : (r.2.zip ps).length = k := by rw [List.length_zip, hro.len, hpk]; omega
      refine ⟨fun m ρ O => m ≤ k ∧ ∃ (o6 o7 : Option D), ρ = [some (lawD k sc rs), some (.tup (ps.map pD)), some (rawA fp), some (.int r.1), some (.tup (r.2.map D.int)), some (rawA wp), o6, o7, o8, o9, o10, none] ∧ O = [(wp, .lst (((0, 1) :: ((r.2.zip ps).take m).map (worthT sc)).map pD)), (fp, .lst (((rngI 0 k).map fun j => unitsG best (rs.take i) j).map D.int))],
        ⟨Nat.zero_le _, _, _, rfl, rfl⟩, fun m d ρ O hd ⟨hm, o6, o7, e1, e2⟩ => ?_, fun ρ O ⟨hm, o6, o7, e1, e2⟩ => ?_⟩
      · subst e1 e2
        obtain ⟨q, hq, rfl⟩ := map_get hd
        obtain ⟨hltm, _⟩ := List.getElem?_eq_some_iff.mp hq
        have hqm := List.of_mem_zip (List.mem_of_getElem? hq)
        obtain ⟨hp1, hp2⟩ := hps q.2 hqm.2
        obtain ⟨hn1, hn2⟩ := hro.ok q.1 hqm.1
        repeat walk_at "e"
        walk_at "expr"
        refine de_append rfl rfl rfl rfl rfl ?_
        repeat walk_at "e"
        refine ⟨⟨_, sqd_own (i := 0) rfl, wp, rfl⟩, ?_⟩
        walk_at "e"
        refine DE.imp (post := fun d O' => d = pD (worthT sc q) ∧ O' = [(wp, .lst (((0, 1) :: ((r.2.zip ps).take m).map (worthT sc)).map pD)), (fp, .lst (((rngI 0 k).map fun j => unitsG best (rs.take i) j).map D.int))]) ?_ (fun d O' ⟨g1, g2⟩ => ?_)
        · refine de_if ?_
          refine dt_cmpR op_gt (nomark _) ?_
          repeat walk_at "e"
          refine rd_B0 ⟨_, rfl, ?_⟩
          by_cases h0 : 0 < q.1
          · refine iT (decide_eq_true h0) ?_
            obtain ⟨s1, s2⟩ := redS_den (n := q.1) hs0 hs1
            have h3 : 0 < (redS sc q.1).2 * q.2.2 := Int.mul_pos s1 hp1
            have h4 : (redS sc q.1).2 * q.2.2 ≤ 10 * 199 := Int.mul_le_mul s2 hp2 (by omega) (by omega)
            refine de_c0 G2 hr (by decide) rfl (by decide) rfl rfl ?_
            walk_at "e"
            refine de_c0 G1 hr (by decide) rfl (by decide) rfl rfl ?_
            walk_at "e"
            walk_at "e"
            walk_at "e"
            refine de_ixK hu1 (fun _ _ => rfl) ?_
            repeat walk_at "e"
            refine ⟨lawKs, _, .inr "scale", _, .inl rfl, rfl, lawL2, ?_⟩
            repeat walk_at "e"
            refine ⟨q.1, sc, rfl, hs0, by omega, rfl, ?_⟩
            repeat walk_at "e"
            refine ⟨redS sc q.1, q.2, rfl, s1, hp1, by omega, by omega, by omega, rfl, ?_, rfl⟩
            unfold worthT
            rw [if_pos h0]
            rfl
          · refine iF (decide_eq_false h0) ?_
            repeat walk_at "e"
            refine ⟨sz rfl, ?_, rfl⟩
            unfold worthT
            rw [if_neg h0]
            rfl
        · subst g1 g2
          repeat walk_at "e"
          refine ⟨wp, 0, _, _, rfl, rfl, rfl, by simp; exact Nat.lt_of_lt_of_le (show _ < 1000 by omega) (by decide), ?_⟩
          repeat walk_at "e"
          refine ⟨by omega, _, _, rfl, ?_⟩
          rw [List.take_add_one, hq]
          simp
      · subst e1 e2
        rw [List.length_map]
        have eW : (0, 1) :: ((r.2.zip ps).take (r.2.zip ps).length).map (worthT sc) = worthsT sc r.2 ps := by rw [List.take_length]; rfl
        rw [eW]
        have hWl : (worthsT sc r.2 ps).length = k + 1 := by unfold worthsT; rw [List.length_cons, List.length_map, hzl]
        have hWp : ∀ w ∈ worthsT sc r.2 ps, 0 < w.2 ∧ w.2 ≤ 1999 := fun w hw => by
          rcases List.mem_cons.mp hw with rfl | hw
          · exact ⟨by decide, by decide⟩
          · obtain ⟨q, hq, rfl⟩ := List.mem_map.mp hw
            obtain ⟨a, b⟩ := hps q.2 (List.of_mem_zip hq).2
            exact worthT_pos hs0 hs1 a b
        have hW0 : (worthsT sc r.2 ps)[0]? = some (0, 1) := rfl
        generalize hW : worthsT sc r.2 ps = W at *
        refine dss_fz 0 5 rfl rfl rfl ?_
        walk_at "e"
        refine ds_st hN rfl (.inr rfl) rfl (.inl rfl) ?_
        refine de_ix (fun _ _ => rfl) ?_
        repeat walk_at "e"
        refine ⟨_, _, _, sqd_l, rfl, atI_nat (n := 0) (map_at hW0), ?_⟩
        walk_at "e"
        refine ds_for .never rfl (by intro _; rfl) (ts := [9]) (di_lst ?_)
        repeat walk_at "e"
        refine ⟨_, rfl, ?_⟩
        refine ⟨fun m ρ O => m ≤ W.length ∧ ∃ (o9 : Option D), ρ = [some (lawD k sc rs), some (.tup (ps.map pD)), some (rawA fp), some (.int r.1), some (.tup (r.2.map D.int)), some (.lst (W.map pD)), o6, o7, some (pD ((W.take m).foldl upT (0, 1))), o9, o10, none] ∧ O = [(fp, .lst (((rngI 0 k).map fun j => unitsG best (rs.take i) j).map D.int))],
          ⟨Nat.zero_le _, _, rfl, rfl⟩, fun m d ρ O hd ⟨hm, o9, e1, e2⟩ => ?_, fun ρ O ⟨hm, o9, e1, e2⟩ => ?_⟩
        · subst e1 e2
          obtain ⟨wt, hwi, rfl⟩ := map_get hd
          obtain ⟨hltm, _⟩ := List.getElem?_eq_some_iff.mp hwi
          obtain ⟨w1, w2⟩ := hWp wt (List.mem_of_getElem? hwi)
          have htp : 0 < ((W.take m).foldl upT (0, 1)).2 ∧ ((W.take m).foldl upT (0, 1)).2 ≤ 1999 := by
            rcases fold_upT (W.take m) (0, 1) with h | h
            · rw [h]; exact ⟨by decide, by decide⟩
            · exact hWp _ (List.mem_of_mem_take h)
          have hnx : (W.take (m + 1)).foldl upT (0, 1) = upT ((W.take m).foldl upT (0, 1)) wt := by
            rw [List.take_add_one, hwi, List.foldl_append]; rfl
          generalize (W.take m).foldl upT (0, 1) = tp at *
          walk_at "e"
          walk_at "e"
          refine ds_st hN rfl (.inr rfl) rfl (.inl rfl) ?_
          refine de_if ?_
          walk_at "val"
          refine de_c0 G3 hr (by decide) rfl (by decide) rfl rfl ?_
          repeat walk_at "e"
          refine ⟨tp, wt, rfl, htp.1, w1, htp.2, w2, rfl, _, rfl, ?_⟩
          by_cases hlt2 : tp.1 * wt.2 < wt.1 * tp.2
          · refine iT (decide_eq_true hlt2) ?_
            repeat walk_at "e"
            refine ⟨hltm, some (pD wt), ?_, rfl⟩
            rw [hnx]
            unfold upT
            rw [if_pos hlt2]
            rfl
          · refine iF (decide_eq_false hlt2) ?_
            repeat walk_at "e"
            refine ⟨hltm, some (pD wt), ?_, rfl⟩
            rw [hnx]
            unfold upT
            rw [if_neg hlt2]
            rfl
        · subst e1 e2
          rw [List.length_map, List.take_length]
          show DSs _ _ [_, _, _, _, _, _, _, _, some (pD (topT W)), _, _, _] _ _
          walk_at "e"
          refine ds_setLc (Oz := []) (i := 10) (own := [("_law_k", 11), ("_law_worth", 9)]) rfl hN rfl rfl rfl (blkOk_by (by kernel_rfl)) (by decide) (by intro _; rfl) ?_
          refine di_enumL rfl B.enumerate rfl ?_
          repeat walk_at "e"
          refine ⟨_, rfl, ?_⟩
          rw [enumD_map]
          refine lcd_filter W.zipIdx _ (fun q => .int ((q.2 : Int) - 1)) (fun q => decide (q.1 = topT W)) (sz1000 (by rw [List.length_zipIdx]; omega)) rfl (fun q hq => ?_) ?_
          · intro _ _ _ _ _
            repeat walk_at "e"
            intro _ _ _ _ _
            refine dt_cmpR (op_eqD (room64 hr)) (nomark _) ?_
            repeat walk_at "e"
            refine rd_eqD rfl rfl (shape_pD _) (shape_pD _) ?_
            rw [eqv_pD]
            refine ⟨_, rfl, rfl, ?_⟩
            by_cases h : q.1 = topT W
            · rw [if_pos (decide_eq_true h)]
              intro _ _ _ _ _
              refine de_op op_sub ?_
              repeat walk_at "e"
              exact rd_I0 ⟨rfl, rfl⟩
            · rw [if_neg (by simp [h])]
          have eB : (W.zipIdx.filter fun q => decide (q.1 = topT W)).map (fun q => D.int ((q.2 : Int) - 1)) = [.int (best r.2)] := by
            have := congrArg (List.map D.int) hb3
            unfold bestsT at this
            rw [List.map_map] at this
            exact this
          rw [eB]
          repeat walk_at "e"
          refine dt_cmpR op_gt (nomark _) ?_
          walk_at "len"
          repeat walk_at "e"
          refine rc_len sqd_l ?_
          repeat walk_at "e"
          refine rd_B0 ⟨_, rfl, iF (by simp) ?_⟩
          repeat walk_at "e"
          refine dt_cmpR op_ge (nomark _) ?_
          refine de_ix (fun _ _ => rfl) ?_
          repeat walk_at "e"
          refine ⟨_, _, _, sqd_l, rfl, rfl, ?_⟩
          repeat walk_at "e"
          refine rd_B0 ⟨_, rfl, ?_⟩
          by_cases h0 : 0 ≤ best r.2
          · obtain ⟨n, hn⟩ := Int.eq_ofNat_of_zero_le h0
            rw [hn] at hb2
            have hnk : n < k := by omega
            have hlen : ((rngI 0 k).map fun j => unitsG best (rs.take i) j).length = k := by simp [rngI]
            have hget : ((rngI 0 k).map fun j => unitsG best (rs.take i) j)[n]? = some (unitsG best (rs.take i) (n : Int)) := by
              unfold rngI
              rw [List.map_map, List.getElem?_map, List.getElem?_range hnk]
              simp
            refine iT (by simpa using h0) ?_
            walk_at "e"
            refine ds_asg (ts := []) ?_ rfl rfl rfl
            refine de_op op_add ?_
            refine de_ix (fun _ _ => rfl) ?_
            repeat walk_at "e"
            refine de_ix (fun _ _ => rfl) ?_
            repeat walk_at "e"
            refine ⟨_, _, _, sqd_l, rfl, rfl, ?_⟩
            rw [hn]
            refine ⟨_, _, _, sqd_own (i := 0) rfl, rfl, atI_nat (map_at hget), ?_⟩
            repeat walk_at "e"
            refine rd_I0 ?_
            refine dg_sub set_list (by intro _; rfl) ?_
            repeat walk_at "e"
            refine de_ix (fun _ _ => rfl) ?_
            repeat walk_at "e"
            refine ⟨_, _, _, sqd_l, rfl, rfl, ?_⟩
            have hix : ixN (((rngI 0 k).map fun j => unitsG best (rs.take i) j).map D.int).length (n : Int) = some n := by
              rw [List.length_map, hlen]
              unfold ixN
              simp
              omega
            refine std_list (j := 0) rfl hix ?_
            repeat walk_at "e"
            refine ⟨hlt, _, _, _, _, _, _, _, _, rfl, ?_⟩
            have : ((rngI 0 k).map fun j => unitsG best (rs.take (i + 1)) j) = ((rngI 0 k).map fun j => unitsG best (rs.take i) j).set n (unitsG best (rs.take i) (n : Int) + r.1) := by
              apply List.ext_getElem?
              intro m
              by_cases hm : m < k
              · have e1 : (rngI 0 k)[m]? = some (m : Int) := by unfold rngI; rw [List.getElem?_map, List.getElem?_range hm]; simp
                rw [List.getElem?_map, e1, htk]
                show some (unitsG best (rs.take i ++ [r]) (m : Int)) = _
                rw [unitsG_snoc]
                by_cases hnm : n = m
                · subst hnm
                  rw [List.getElem?_set_self (by rw [hlen]; exact hm), if_pos hn]
                · rw [List.getElem?_set_ne hnm, List.getElem?_map, e1, if_neg (by omega), Int.add_zero]
                  rfl
              · rw [List.getElem?_eq_none (by simp [rngI]; omega), List.getElem?_eq_none (by rw [List.length_set, hlen]; omega)]
            show _ = [(fp, MO.lst (((rngI 0 k).map fun j => unitsG best (rs.take (i + 1)) j).map D.int))]
            rw [this, List.map_set]
            rfl
          · refine iF (by simpa using h0) ?_
            repeat walk_at "e"
            refine ⟨hlt, _, _, _, _, _, _, _, _, rfl, ?_⟩
            have : ((rngI 0 k).map fun j => unitsG best (rs.take (i + 1)) j) = (rngI 0 k).map fun j => unitsG best (rs.take i) j := by
              apply List.map_congr_left
              intro j hj
              obtain ⟨m, _, rfl⟩ := List.mem_map.mp hj
              rw [htk, unitsG_snoc, if_neg (by omega), Int.add_zero]
            show _ = [(fp, MO.lst (((rngI 0 k).map fun j => unitsG best (rs.take (i + 1)) j).map D.int))]
            rw [this]
    · subst e1 e2
      rw [List.length_map, List.take_length]
      walk_at "e"
      walk_at "e"
      refine de_fz (i := 0) ?_
      repeat walk_at "e"
      exact ⟨fp, _, rfl, rfl, rfl, kk⟩
end
end
section
/-! ### more -/
def fsMore : FS := fun ds O post => ∃ (p : Addr) (m : MO) (k : Nat) (s : Int) (rs : List WRow) (b : Nat), ds = [.raw (.ref p), lawD k s rs] ∧ 1 ≤ k ∧ k ≤ 3 ∧ rs.length ≤ 20 ∧ (∀ r ∈ rs, LOk k 7 r) ∧ O = [(p, m)] ∧ PenOk (b + 100) m ∧
  ∀ out m', Plain out → (∀ r ∈ out, LOk k 8 r) → out.length ≤ rs.length + 1 → PenOk b m' → post (lawD k s out) [(p, m')]
def keepN (kn : Nat) (q : Int × Nat) : Int := if q.2 = kn then q.1 else 0
def dropN (kn : Nat) (q : Int × Nat) : Int := if q.2 = kn then 0 else q.1
abbrev sMore : Stmt := topS 66
theorem scMore : FnScope ["_law_pen_here", "_law_bids", "_law_way", "_law_kinds", "_law_rows", "_law_at", "_law_weight", "_law_numbers_here", "_law_other", "_law_kind", "_law_k", "_law_number"] ["_law_pen_here", "_law_bids"] (defScope sMore) := ⟨rfl, rfl, rfl, by decide +kernel, rfl, by decide +kernel, by decide +kernel⟩
abbrev GSum (P : Program) (w : World) (K : PySem.W.Frag) (mg : Str → Option Value) (base : Heap) : Prop := Std P w K mg base 2 "_law_sum" ["_law_one", "_law_other"] fsSum
section
variable {O : Own}
/-- an owned list against a value -/
theorem rd_eqOL {P : Program} {w : World} {K : PySem.W.Frag} {i : Nat} {q : Addr} {ds : List D} {d2 : D} {post : D → Own → Prop} (hi : O[i]? = some (q, .lst ds)) (p1 : plainD (.lst ds) = true) (p2 : plainD d2 = true) (s1 : SeqAt.shaped (pyD (.lst ds)) = true) (s2 : SeqAt.shaped (pyD d2) = true) (k : post (.bl (PyData.eqv (pyD (.lst ds)) (pyD d2))) O) : RD P w (rEqD K) (.raw (.ref q)) d2 O post := by
  intro I H v1 v2 e ow n1 n2 Q c
  obtain ⟨_, hOk⟩ := ow.own _ (List.mem_of_getElem? hi)
  obtain ⟨xs, hx, l⟩ := (show ∃ xs, H q = some (.lst xs) ∧ DenL I ds xs from hOk)
  rw [show v1 = V.ref q from n1]
  exact ⟨_, _, .lst (SqL.of hx) (dps_of e ds l p1), dp_of e d2 n2 p2, s1, s2, c _ I H (.bl _) O (Grow.refl e) ow rfl k⟩
end
section
variable {P : Program} {w : World} {K : PySem.W.Frag} {mg : Str → Option Value} {base : Heap} {f : Addr} {fd : FuncData}
theorem ok_more (F : FnP K "_law_more" sMore f fd) (B : Bn mg) (G1 : GDraw P w K mg base) (G2 : GBuyer P w K mg base) (G3 : GMerged P w K mg base) (G4 : GSum P w K mg base) : FnOk P w K mg base CX0 5 f fd ["_law_pen_here", "_law_bids"] (spD P w fsMore) := by
  refine fokX F scMore (fun ds O post h => ?_) (fun cdv A outer s H E ds O post hr h => ?_)
  · obtain ⟨a, b, c, d, e, g, rfl, _⟩ := h; rfl
  · obtain ⟨p, m, k, sc, rs, b, rfl, hk1, hk3, hrl, hrs, rfl, hp, kk⟩ := h
    have hN := scMore.nd
    have hu1 := room1 hr
    walk_at "e"
    refine ds_par3 rfl hN (ixOf_at rfl) (ixOf_at rfl) (ixOf_at rfl) (by decide) (by decide) (by decide) rfl rfl rfl rfl rfl ?_
    walk_at "e"
    refine de_cO G1 hr (by decide) rfl (by decide) rfl rfl ?_
    repeat walk_at "e"
    refine ⟨[(p, m)], [], List.Perm.refl _, p, m, _, b + 99, rfl, by decide, by decide, rfl, hp, fun way m1 a1 a2 hp1 => ?_⟩
    walk_at "e"
    refine de_ixK hu1 (fun _ _ => rfl) ?_
    repeat walk_at "e"
    refine ⟨lawKs, _, .inr "kinds", _, .inl rfl, rfl, lawL1, ?_⟩
    walk_at "e"
    walk_at "listof"
    walk_at "e"
    refine de_ixK hu1 (fun _ _ => rfl) ?_
    repeat walk_at "e"
    refine ⟨lawKs, _, .inr "rows", _, .inl rfl, rfl, lawL3, ?_⟩
    repeat walk_at "e"
    refine rc_lstO sqd_l fun rp => ?_
    repeat walk_at "e"
    refine ⟨_, _, _, rfl, ?_⟩
    refine dss_cons (ds_nx (M := fun ρ O => rs ≠ [] ∧ ρ = [some (.raw (.ref p)), some (lawD k sc rs), some (.int way), some (.int (k : Int)), some (.raw (.ref rp)), none, none, none, none, none, none, none] ∧ O = [(rp, .lst (rs.map lrowD)), (p, m1)]) ?_ (fun ρ O ⟨hne, g1, g2⟩ => ?_))
    · refine ds_if (DT.imp (post := fun b O' => (b = true ∨ rs ≠ []) ∧ O' = [(rp, .lst (rs.map lrowD)), (p, m1)]) ?_ (fun b' O' ⟨e1, e2⟩ => ?_))
      · refine dt_w (dw_or ?_)
        refine dt_cmpR op_eq (nomark _) ?_
        repeat walk_at "e"
        refine rd_eqI ⟨_, rfl, ?_⟩
        by_cases hw : way = 0
        · exact iT (by simp [hw]) ⟨.inl rfl, rfl⟩
        · refine iF (by simp [hw]) ?_
          refine dw_or1 ?_
          refine dt_cmpR (op_eqD (room64 hr)) (nomark _) ?_
          repeat walk_at "e"
          refine de_lst ?_
          repeat walk_at "e"
          refine ⟨sz rfl, rd_eqOL (i := 0) rfl (by rw [plainD]; exact plainDs_map fun r _ => plain_lrow r) rfl (rows_shaped rs) rfl ?_⟩
          rw [eqv_nil]
          refine ⟨_, rfl, ?_, rfl⟩
          cases rs with
          | nil => exact .inl rfl
          | cons r rs => exact .inr (by simp)
      subst e2
      by_cases hb : b' = true
      · refine iT hb ?_
        repeat walk_at "e"
        refine de_drop ?_
        refine de_cO G4 hr (by decide) rfl (by decide) rfl rfl ?_
        walk_at "e"
        refine de_v rfl (.inl rfl) (by decide) (by decide) rfl ?_
        walk_at "e"
        refine de_cO G2 hr (by decide) rfl (by decide) rfl rfl ?_
        walk_at "e"
        refine de_v rfl (.inl rfl) (by decide) (by decide) rfl ?_
        walk_at "e"
        refine de_v rfl (.inl rfl) (by decide) (by decide) rfl ?_
        walk_at "e"
        refine de_ixK hu1 (fun _ _ => rfl) ?_
        repeat walk_at "e"
        refine ⟨lawKs, _, .inr "scale", _, .inl rfl, rfl, lawL2, ?_⟩
        repeat walk_at "e"
        refine ⟨[(p, m1)], [(rp, .lst (rs.map lrowD))], List.Perm.swap _ _ _, p, m1, k, sc, 5, 1, b + 19, rfl, hk1, hk3, by decide, by decide, by decide, rfl, hp1, fun out1 m2 hpl1 hok1 hol1 hp2 => ?_⟩
        repeat walk_at "e"
        refine ⟨[], _, List.Perm.refl _, k, sc, rs, out1, 7, rfl, hk1, hk3, by omega, by omega, hrs, hok1, rfl, fun out hout => ⟨[(p, m2)], ⟨_, List.Perm.refl _, ?_⟩, ?_⟩⟩
        · exact List.Sublist.cons₂ _ (List.nil_sublist _)
        · refine kk out m2 hout.plain (fun r hr => ((hout.ok (k := k) (N := 7) fun r hr => (List.mem_append.mp hr).elim (hrs r) (hok1 r)) r hr).mono (by omega)) ?_ (hp2.mono (by omega))
          have := hout.le
          rw [List.length_append] at this
          omega
      · refine iF (by simpa using hb) ?_
        repeat walk_at "e"
        exact ⟨e1.resolve_left hb, rfl, rfl⟩
    · subst g1 g2
      have hrs0 : 0 < rs.length := List.length_pos_iff.mpr hne
      walk_at "e"
      refine ds_st hN rfl (.inl rfl) rfl (.inr rfl) ?_
      refine de_cO G1 hr (by decide) rfl (by decide) rfl rfl ?_
      repeat walk_at "e"
      walk_at "len"
      repeat walk_at "e"
      refine rc_len (sqd_own (i := 0) rfl) ?_
      repeat walk_at "e"
      rw [List.length_map]
      refine ⟨[(p, m1)], [(rp, .lst (rs.map lrowD))], List.Perm.swap _ _ _, p, m1, _, b + 98, rfl, by omega, by omega, rfl, hp1, fun at_ m2 b1 b2 hp2 => ?_⟩
      obtain ⟨rn, rfl⟩ := Int.eq_ofNat_of_zero_le b1
      obtain ⟨r, hrn⟩ : ∃ r, rs[rn]? = some r := ⟨_, List.getElem?_eq_getElem (by omega)⟩
      have hrd : (rs.map lrowD)[rn]? = some (.tup [.int r.1, .tup (r.2.map D.int)]) := map_at hrn
      have hro := hrs r (List.mem_of_getElem? hrn)
      walk_at "e"
      refine ds_asg (ts := [6, 7]) ?_ rfl rfl rfl
      refine de_ix (fun _ _ => rfl) ?_
      repeat walk_at "e"
      refine ⟨_, _, _, sqd_own (i := 1) rfl, rfl, atI_nat hrd, ?_⟩
      repeat walk_at "e"
      walk_at "listof"
      repeat walk_at "e"
      refine rc_lstO sqd_t fun op => ?_
      repeat walk_at "e"
      refine de_cO G1 hr (by decide) rfl (by decide) rfl rfl ?_
      repeat walk_at "e"
      refine ⟨[(p, m2)], [(op, .lst (r.2.map D.int)), (rp, .lst (rs.map lrowD))], List.Perm.swap _ _ _, p, m2, _, b + 97, rfl, by omega, by omega, rfl, hp2, fun kd m3 c1 c2 hp3 => ?_⟩
      obtain ⟨kn, rfl⟩ := Int.eq_ofNat_of_zero_le c1
      have hls : ∀ l ∈ rs.map lIn, LIn.Ok k 8 l := fun l hl => by
        obtain ⟨r, hr, rfl⟩ := List.mem_map.mp hl
        exact lIn_ok ((hrs r hr).mono (by omega))
      refine dss_cons (ds_nx (M := fun ρ O => ∃ (od : D) (oth : List D) (ls : List LIn), ρ = [some (.raw (.ref p)), some (lawD k sc rs), some (.int way), some (.int (k : Int)), some (.raw (.ref rp)), some (.int (rn : Int)), some (.int r.1), some (.tup (r.2.map D.int)), some od, some (.int (kn : Int)), none, none] ∧
        (O = [(p, m3), (op, .lst oth), (rp, .lst (ls.map LIn.d))] ∨ O = [(p, m3), (rp, .lst (ls.map LIn.d))]) ∧ ls.length ≤ rs.length + 1 ∧ ∀ l ∈ ls, LIn.Ok k 8 l) ?_ (fun ρ O ⟨od, oth, ls, g1, g2, g3, g4⟩ => ?_))
      · have hix : ixN (rs.map lrowD).length (rn : Int) = some rn := by
          rw [List.length_map]
          unfold ixN
          simp
          omega
        have hset : ∀ l : LIn, (rs.map lrowD).set rn l.d = ((rs.map lIn).set rn l).map LIn.d := fun l => by rw [List.map_set, ← lIn_d]
        have hsetok : ∀ l : LIn, LIn.Ok k 8 l → ∀ x ∈ (rs.map lIn).set rn l, LIn.Ok k 8 x := fun l hl x hx => by
          rcases List.mem_or_eq_of_mem_set hx with h | rfl
          · exact hls x h
          · exact hl
        refine ds_if ?_
        refine dt_cmpR op_eq (nomark _) ?_
        repeat walk_at "e"
        refine rd_eqI ⟨_, rfl, ?_⟩
        by_cases hw1 : way = 1
        · refine iT (by simp [hw1]) ?_
          walk_at "e"
          refine ds_asg (ts := []) ?_ rfl rfl rfl
          refine de_tup ?_
          walk_at "e"
          refine de_op op_add ?_
          repeat walk_at "e"
          refine rd_I0 ?_
          repeat walk_at "e"
          refine ⟨sz rfl, ?_⟩
          refine dg_sub set_list (by intro _; rfl) ?_
          repeat walk_at "e"
          refine std_list (j := 2) rfl hix ?_
          repeat walk_at "e"
          have := hset (lIn (r.1 + 1, r.2))
          refine ⟨_, r.2.map D.int, (rs.map lIn).set rn (lIn (r.1 + 1, r.2)), rfl, .inl ?_, by simp, hsetok _ (lIn_ok ⟨hro.len, (hro.mono (show (7 : Int) ≤ 8 by omega)).ok⟩)⟩
          rw [← this]
          rfl
        · refine iF (by simp [hw1]) ?_
          walk_at "e"
          refine ds_if ?_
          refine dt_cmpR op_eq (nomark _) ?_
          repeat walk_at "e"
          refine rd_eqI ⟨_, rfl, ?_⟩
          by_cases hw2 : way = 2
          · refine iT (by simp [hw2]) ?_
            walk_at "e"
            refine ds_asg (ts := []) ?_ rfl rfl rfl
            walk_at "e"
            refine dg_sub set_list (by intro _; rfl) ?_
            repeat walk_at "e"
            have hix2 : ixN (r.2.map D.int).length (kn : Int) = some kn := by
              rw [List.length_map, hro.len]
              unfold ixN
              simp
              omega
            refine std_list (j := 1) rfl hix2 ?_
            refine dss_fz 1 8 rfl rfl rfl ?_
            walk_at "e"
            refine ds_asg (ts := []) ?_ rfl rfl rfl
            repeat walk_at "e"
            refine ⟨sz rfl, ?_⟩
            refine dg_sub set_list (by intro _; rfl) ?_
            repeat walk_at "e"
            refine std_list (j := 1) rfl hix ?_
            repeat walk_at "e"
            have := hset ⟨.lst ((r.2.set kn 0).map D.int), (r.1, r.2.set kn 0)⟩
            refine ⟨_, [], (rs.map lIn).set rn ⟨.lst ((r.2.set kn 0).map D.int), (r.1, r.2.set kn 0)⟩, rfl, .inr ?_, by simp, hsetok _ ⟨.inl rfl, ⟨by rw [List.length_set]; exact hro.len, fun n hn => ?_⟩⟩⟩
            · rw [← this]
              show _ = [_, (rp, MO.lst ((rs.map lrowD).set rn (.tup [.int r.1, .lst ((r.2.set kn 0).map D.int)])))]
              rw [List.map_set]
              rfl
            · rcases List.mem_or_eq_of_mem_set hn with h | rfl
              · have := hro.ok n h
                omega
              · omega
          · refine iF (by simp [hw2]) ?_
            walk_at "e"
            refine ds_if ?_
            refine dt_cmpR op_eq (nomark _) ?_
            repeat walk_at "e"
            refine rd_eqI ⟨_, rfl, ?_⟩
            by_cases hw3 : way = 3
            · refine iT (by simp [hw3]) ?_
              have hz : ∀ (g : Nat → Int × Nat → Int), (∀ q : Int × Nat, g kn q = q.1 ∨ g kn q = 0) → LOk k 8 (r.1, r.2.zipIdx.map (g kn)) := fun g hg => ⟨by rw [List.length_map, List.length_zipIdx]; exact hro.len, fun n hn => by
                obtain ⟨q, hq, rfl⟩ := List.mem_map.mp hn
                have hq1 : q.1 ∈ r.2 := by
                  have := List.mem_zipIdx' hq
                  rw [this.2]; exact List.getElem_mem _
                have := hro.ok q.1 hq1
                rcases hg q with h | h <;> rw [h] <;> omega⟩
              walk_at "e"
              refine ds_asg (ts := []) ?_ rfl rfl rfl
              refine de_tup ?_
              walk_at "e"
              refine de_v rfl (.inl rfl) (by decide) (by decide) rfl ?_
              walk_at "e"
              refine de_lc (Oz := []) (own := [("_law_k", 10), ("_law_number", 11)]) rfl hN (blkOk_by (by kernel_rfl)) (by decide) (by intro _; rfl) (di_enumT rfl B.enumerate rfl ?_)
              repeat walk_at "e"
              refine ⟨_, rfl, ?_⟩
              rw [enumD_map]
              refine lcd_map r.2.zipIdx _ (fun q => .int (keepN kn q)) (sz1000 (by rw [List.length_zipIdx, hro.len]; omega)) rfl (fun q hq => ?_) ?_
              · intro _ _ _ _ _
                repeat walk_at "e"
                intro _ _ _ _ _
                refine de_if ?_
                refine dt_cmpR op_eq (nomark _) ?_
                repeat walk_at "e"
                refine rd_eqI ⟨_, rfl, ?_⟩
                by_cases h : q.2 = kn
                · refine iT (by simp [h]) ?_
                  repeat walk_at "e"
                  exact ⟨by unfold keepN; rw [if_pos h], rfl⟩
                · refine iF (by simp; omega) ?_
                  repeat walk_at "e"
                  exact ⟨by unfold keepN; rw [if_neg h], rfl⟩
              repeat walk_at "e"
              refine ⟨sz rfl, ?_⟩
              refine dg_sub set_list (by intro _; rfl) ?_
              repeat walk_at "e"
              refine std_list (j := 2) rfl hix ?_
              walk_at "e"
              walk_at "expr"
              refine de_append rfl rfl rfl rfl rfl ?_
              repeat walk_at "e"
              refine ⟨⟨_, sqd_own (i := 2) rfl, rp, rfl⟩, ?_⟩
              walk_at "e"
              refine de_tup ?_
              walk_at "e"
              refine de_v rfl (.inl rfl) (by decide) (by decide) rfl ?_
              walk_at "e"
              refine de_lc (Oz := []) (own := [("_law_k", 10), ("_law_number", 11)]) rfl hN (blkOk_by (by kernel_rfl)) (by decide) (by intro _; rfl) (di_enumT rfl B.enumerate rfl ?_)
              repeat walk_at "e"
              refine ⟨_, rfl, ?_⟩
              rw [enumD_map]
              refine lcd_map r.2.zipIdx _ (fun q => .int (dropN kn q)) (sz1000 (by rw [List.length_zipIdx, hro.len]; omega)) rfl (fun q hq => ?_) ?_
              · intro _ _ _ _ _
                repeat walk_at "e"
                intro _ _ _ _ _
                refine de_if ?_
                refine dt_cmpR op_eq (nomark _) ?_
                repeat walk_at "e"
                refine rd_eqI ⟨_, rfl, ?_⟩
                by_cases h : q.2 = kn
                · refine iT (by simp [h]) ?_
                  repeat walk_at "e"
                  exact ⟨by unfold dropN; rw [if_pos h], rfl⟩
                · refine iF (by simp; omega) ?_
                  repeat walk_at "e"
                  exact ⟨by unfold dropN; rw [if_neg h], rfl⟩
              repeat walk_at "e"
              refine ⟨sz rfl, ?_⟩
              repeat walk_at "e"
              refine ⟨rp, 2, _, _, rfl, rfl, rfl, by simp; exact Nat.lt_of_lt_of_le (show _ < 1000 by omega) (by decide), ?_⟩
              repeat walk_at "e"
              have := hset ⟨.lst (r.2.zipIdx.map fun q => D.int (keepN kn q)), (r.1, r.2.zipIdx.map (keepN kn))⟩
              refine ⟨_, r.2.map D.int, (rs.map lIn).set rn ⟨.lst (r.2.zipIdx.map fun q => D.int (keepN kn q)), (r.1, r.2.zipIdx.map (keepN kn))⟩ ++ [⟨.lst (r.2.zipIdx.map fun q => D.int (dropN kn q)), (r.1, r.2.zipIdx.map (dropN kn))⟩], rfl, .inl ?_, by simp, fun l hl => ?_⟩
              · rw [List.map_append, ← this]
                rfl
              · rcases List.mem_append.mp hl with h | h
                · exact hsetok _ ⟨.inl (by rw [List.map_map]; rfl), hz keepN fun q => by unfold keepN; split <;> simp⟩ l h
                · simp at h; subst h
                  exact ⟨.inl (by rw [List.map_map]; rfl), hz dropN fun q => by unfold dropN; split <;> simp⟩
            · refine iF (by simp [hw3]) ?_
              walk_at "e"
              refine ds_asg (ts := []) ?_ rfl rfl rfl
              refine de_tup ?_
              walk_at "e"
              refine de_v rfl (.inl rfl) (by decide) (by decide) rfl ?_
              walk_at "e"
              refine de_lc (Oz := []) (own := [("_law_number", 11)]) rfl hN (blkOk_by (by kernel_rfl)) (by decide) (by intro _; rfl) (di_tup ?_)
              repeat walk_at "e"
              refine ⟨_, rfl, lcd_map r.2 D.int (fun n => .int (n + 1)) (sz1000 (by rw [hro.len]; omega)) rfl (fun n hn => ?_) ?_⟩
              · intro _ _ _ _ _
                repeat walk_at "e"
                intro _ _ _ _ _
                refine de_op op_add ?_
                repeat walk_at "e"
                exact rd_I0 ⟨rfl, rfl⟩
              repeat walk_at "e"
              refine ⟨sz rfl, ?_⟩
              refine dg_sub set_list (by intro _; rfl) ?_
              repeat walk_at "e"
              refine std_list (j := 2) rfl hix ?_
              repeat walk_at "e"
              have := hset ⟨.lst (r.2.map fun n => D.int (n + 1)), (r.1, r.2.map (· + 1))⟩
              refine ⟨_, r.2.map D.int, (rs.map lIn).set rn ⟨.lst (r.2.map fun n => D.int (n + 1)), (r.1, r.2.map (· + 1))⟩, rfl, .inl ?_, by simp, hsetok _ ⟨.inl (by rw [List.map_map]; rfl), ⟨by rw [List.length_map]; exact hro.len, fun n hn => ?_⟩⟩⟩
              · rw [← this]
                rfl
              · obtain ⟨n0, h, rfl⟩ := List.mem_map.mp hn
                have := hro.ok n0 h
                omega
      · subst g1
        have fin : ∀ O', O' = [(p, m3)] ∨ O' = [(p, m3), (op, .lst oth)] → DSs (cxOf CX0 P w K mg base ["_law_pen_here", "_law_bids", "_law_way", "_law_kinds", "_law_rows", "_law_at", "_law_weight", "_law_numbers_here", "_law_other", "_law_kind", "_law_k", "_law_number"] "_law_more" (defScope sMore) f cdv A outer s H E).nox ((defBody sMore).drop 7)
            [some (.raw (.ref p)), some (lawD k sc rs), some (.int way), some (.int (k : Int)), some (.lst (ls.map LIn.d)), some (.int (rn : Int)), some (.int r.1), some (.tup (r.2.map D.int)), some od, some (.int (kn : Int)), none, none] O' (endP post) := by
          intro O' hO'
          refine dss_cons (sts := []) ?_
          walk_at "e"
          refine de_drop ?_
          refine de_cO G3 hr (by decide) rfl (by decide) rfl rfl ?_
          walk_at "e"
          refine de_v rfl (.inl rfl) (by decide) (by decide) rfl ?_
          walk_at "e"
          refine de_ixK hu1 (fun _ _ => rfl) ?_
          repeat walk_at "e"
          refine ⟨lawKs, _, .inr "scale", _, .inl rfl, rfl, lawL2, ?_⟩
          walk_at "e"
          refine de_v rfl (.inl rfl) (by decide) (by decide) rfl ?_
          repeat walk_at "e"
          refine ⟨[], O', List.Perm.refl _, k, sc, ls, 8, rfl, hk1, hk3, by omega, g4, rfl, fun out hout => ⟨[(p, m3)], ⟨_, List.Perm.refl _, ?_⟩, ?_⟩⟩
          · rcases hO' with rfl | rfl
            · exact List.Sublist.refl _
            · exact List.Sublist.cons₂ _ (List.nil_sublist _)
          · refine kk out m3 hout.plain (hout.ok fun r hr => ?_) ?_ (hp3.mono (by omega))
            · obtain ⟨l, hl, rfl⟩ := List.mem_map.mp hr
              exact (g4 l hl).2
            · have := hout.le
              rw [List.length_map] at this
              omega
        rcases g2 with rfl | rfl
        · exact dss_fz 2 4 rfl rfl rfl (fin _ (.inr rfl))
        · exact dss_fz 1 4 rfl rfl rfl (fin _ (.inl rfl))
end
end
end AB
namespace AB
open PySem PySem.Spec PyProof.Rows L2
/-! ### exceptions: what the law's last line asks -/
structure BaseC (K : PySem.W.Frag) (B : Addr) : Prop where
  rd : ClX.CRead K B (.type "type")
  at_ : PySem.W.findCls K (.ref B) (.type "type") "__init__" = some (.val (.builtin "ValueError.__init__"))
section
variable {X : Cx} {e : Expr} {es : List Expr} {ta : TA} {x : Str} {B : Addr} {p1 p2 pos : Pos}
/-- B.__init__(self, ..) of an own class B below ValueError -/
theorem pe_binit {pl : Sem Bool} (hg : Gl X x) (hm : X.mg x = some (.ref B)) (F : BaseC X.K B) (ha : PA X (e :: es) ta) (hdb : (x == ("__debug__" : Str)) = false := by decide)
    (hc : eval (.Call (.Attribute (.Name x p1) "__init__" p2) (e :: es) [] pos) X.env = (do let ov ← eval (.Name x p1) X.env; standAt p2.atName; let (f, first) ← holding [ov] (getMethod ov "__init__" pl); callWith pos f first (backTo pos (starEach (e :: es) X.env)) (backToKw pos (keywordEach [] X.env))) := by rfl)
    (he : starEach (e :: es) X.env = (false, eval e X.env) :: starEach es X.env := by rfl) (hpl : (backTo pos (starEach es X.env)).any (·.1) = false := by rfl) :
    PE X (.Call (.Attribute (.Name x p1) "__init__" p2) (e :: es) [] pos) (tVeI X.K ta) := ⟨fun pins s σ H Q I h => by
  refine PySem.W.methodCall_KW (ld_glob I hg hm ?_ hdb) hc
  refine PySem.W.method_cls I.kIn F.rd.ga (PySem.W.cls_value I.kIn F.rd.rd F.at_ (by decide +kernel) ?_)
  show wpAny _ _ (callWith pos (Value.builtin "ValueError.__init__") [] (backTo pos (starEach (e :: es) X.env)) []) _ _ _
  refine PyProof.Rows.callWith_method1 (thn (ha.run pos pins _ σ H _ (I.tok _) h) fun us s1 ⟨vs, H1, I1, r1, q1⟩ => ?_) he hpl
  obtain ⟨a, C, ws, rfl, hlen, T, hat, q⟩ := q1
  cases r1 with
  | @cons _ u _ vv ru rr =>
    cases (show u = Value.ref a from ru)
    exact oinit_ok T I1 hat (by rw [← Paired.length rr, sizeLine_eq]; omega) fun s2 J => ⟨.non, H1, J, rfl, q⟩⟩
end
/-! ### the second clause of several takes it -/
def w2nd (K : PySem.W.Frag) (N : List Str) (c1 c2 : Value) (i : Nat) (ts : Addr → Value → Option Addr → TS) (D : Ends) : WX := fun cls d σ H =>
  PySem.W.exmOne K cls c1 = some false ∧ PySem.W.exmOne K cls c2 = some true ∧
    (σ.length = N.length → ∀ a, H a = none → ts a cls d ⟨fun σ1 H1 => D.nx (σ1.set i none) H1, D.rt, fun σ1 H1 => D.bk (σ1.set i none) H1, fun σ1 H1 => D.ct (σ1.set i none) H1⟩ (σ.set i (some (.ref a))) H)
section
variable {X : Cx} {x1 x2 n : Str} {c1 c2 : Value} {i : Nat} {nm : Option Str} {body s1 s2 : List Stmt} {b2 : Stmt} {np1 np2 p1 p2 pos : Pos} {rest : List ExceptHandler} {tb : WX → TS} {ts : Addr → Value → Option Addr → TS}
theorem ps_try_2nd (hs : X.stack = X.env :: X.outer) (hf : X.env.frame = some X.env.locals) (hN : X.N.Nodup) (hi : X.N[i]? = some n) (hln : X.env.kindOf n = some .local) (hc1 : Names X x1 c1) (hc2 : Names X x2 c2)
    (hb : ∀ (W : WX) (pn : List (Addr × Obj)) (xe : Value → Shared → Prop), Takes (X.tr pn xe) W → PassesOwn (model X.prog X.w) X.A X.env xe → PSs (X.tr pn xe) body (tb W))
    (hsu : ∀ (a : Addr) (oe : Obj) (cls : Value) (d : Option Addr) (pn : List (Addr × Obj)), Zc cls d oe → (∃ vs, oe.data = .fields vs) → PSs (X.suite a ((a, oe) :: pn)) (b2 :: s2) (ts a cls d)) :
    PS X (.Try body (.ExceptHandler (some (.Name x1 np1)) nm s1 p1 :: .ExceptHandler (some (.Name x2 np2)) (some n) (b2 :: s2) p2 :: rest) [] [] pos) (fun D σ H => tb (w2nd X.K X.N c1 c2 i ts D) D σ H) := ⟨fun pins s σ H D I h => by
  have ok := I.ok
  have hfr : X.A.frames = some (X.env :: X.outer) := ok.frames.trans (congrArg some hs)
  refine wpAny_Try_except (wpAny_mono ((hb (w2nd X.K X.N c1 c2 i ts D) (X.pn ++ pins) (fun v t1 => wpAny (model X.prog X.w) X.A (noteFrame v X.env) (fun _ t2 => wpAny (model X.prog X.w) X.A (setFlight v none) (fun _ t3 =>
    wpAny (model X.prog X.w) X.A (handleBy v X.env (.ExceptHandler (some (.Name x1 np1)) nm s1 p1 :: .ExceptHandler (some (.Name x2 np2)) (some n) (b2 :: s2) p2 :: rest)) (SP X pins D) X.xe t3) X.xe t2) X.xe t1) (fun v t xx => ?_) PassesOwn.looking).run [] s σ H D (I.toTry _) h) (fun fl t hsp => ?_) fun _ _ z => z)
  · obtain ⟨a, G, sI, pins1, σ1, H1, cls, d, rfl, J0, nb, up, sky, na, os, ag, no1, yes2, q⟩ := xx
    have J : Inv X pins σ1 H1 sI := J0.ofTry ok
    refine Sky.land Zc.steady hfr hf (hs ▸ sky : Sky G (X.env :: X.outer) a (Zc cls d) X.env.locals t.heap) fun g3 fl3 up3 => ?_
    have J3 : Inv X pins σ1 H1 { t with heap := g3 } := J.landed nb fl3.1 (up.trans up3) os ag
    obtain ⟨o3, w3, he3, hz3, hd3⟩ := fl3.there
    have out : a ∉ frs (X.env :: X.outer) := fun hm => by
      obtain ⟨_, o', e', hnf⟩ := fl3.2.2.1.mem hm
      cases he3.symm.trans e'
      exact hnf _ hd3
    have nL : a ≠ X.env.locals := fun z => out (List.mem_filterMap.mpr ⟨X.env, List.mem_cons_self, by rw [hf, z]⟩)
    have nF : a ∉ X.fs := fun hm => let ⟨ev, hev, qq⟩ := List.mem_filterMap.mp hm; out (List.mem_filterMap.mpr ⟨ev, List.mem_cons_of_mem _ hev, qq⟩)
    have S3 := J3.suite he3 hd3 na nL nF
    have LT : PySem.W.Looks (model X.prog X.w) g3 (typeOf (.ref a)) cls := fun A Q E s k q => wpAny_typeOf_ref (k _ _ he3) (hz3.1.symm ▸ q)
    have name : ∀ {y : Str} {c : Value} {np : Pos} {Q : Value → Shared → Prop} {E : Value → Shared → Prop}, Names X y c → Q c { t with heap := g3 } → wpAny (model X.prog X.w) (X.A.mark (some (.ref a))) (eval (.Name y np) X.env) Q E { t with heap := g3 } := fun hc q => by
      obtain ⟨hg, hdbg, hm | ⟨hm, hv, hnn⟩⟩ := hc
      · exact ld_glob (X := X.suite a ((a, o3) :: (X.pn ++ pins))) S3 hg hm q hdbg
      · exact ld_blt (X := X.suite a ((a, o3) :: (X.pn ++ pins))) S3 hg hm hv q hnn hdbg
    refine wpAny_handleBy_cons (codeAny_handlers_test ?_) (fun q => nomatch q)
    refine name hc1 ((PySem.W.exm_one (M := model X.prog X.w) J3.kIn LT no1).here ?_)
    show wpAny _ X.A (handleBy (.ref a) X.env (.ExceptHandler (some (.Name x2 np2)) (some n) (b2 :: s2) p2 :: rest)) _ _ _
    refine wpAny_handleBy_cons (codeAny_handlers_test ?_) (fun q => nomatch q)
    refine name hc2 ((PySem.W.exm_one (M := model X.prog X.w) J3.kIn LT yes2).here ?_)
    refine codeAny_handlers_suite_as (HandSPX.lands_againZ fl3 fun g4 fl4 up4 => ?_)
    have J4 : Inv X pins σ1 H1 { t with heap := g4 } := J.landed nb fl4.1 ((up.trans up3).trans up4) os ag
    obtain ⟨o4, w4, he4, hz4, hd4⟩ := fl4.there
    refine store_ok (X := X.suite a ((a, o4) :: (X.pn ++ pins))) (v := .ref a) (J4.suite he4 hd4 na nL nF) hN hi (.inl hln) rfl (fun t5 S5 => ?_) (.inr hln)
    refine wpAny_mono ((hsu a o4 cls d (X.pn ++ pins) hz4 ⟨_, hd4⟩).run [] t5 _ H1 _ S5 (q J.len a na)) (fun f t6 hsp => ?_) (fun _ _ z => False.elim z)
    cases f with
    | next => obtain ⟨σ6, H6, S6, q6⟩ := hsp; exact gone_ok (S6.unsuite ok) hN hi hln fun t7 J7 => ⟨_, _, J7, q6⟩
    | brk => obtain ⟨σ6, H6, S6, q6⟩ := hsp; exact gone_ok (S6.unsuite ok) hN hi hln fun t7 J7 => ⟨_, _, J7, q6⟩
    | cont => obtain ⟨σ6, H6, S6, q6⟩ := hsp; exact gone_ok (S6.unsuite ok) hN hi hln fun t7 J7 => ⟨_, _, J7, q6⟩
    | ret u => obtain ⟨v6, σ6, H6, S6, r6, q6⟩ := hsp; exact gone_ok (S6.unsuite ok) hN hi hln fun t7 J7 => ⟨_, _, _, J7, r6, q6⟩
  · cases fl with
    | next => obtain ⟨σ1, H1, J, q⟩ := hsp; exact wpAny_execs_nil ⟨σ1, H1, J.ofTry ok, q⟩
    | brk => obtain ⟨σ1, H1, J, q⟩ := hsp; exact ⟨σ1, H1, J.ofTry ok, q⟩
    | cont => obtain ⟨σ1, H1, J, q⟩ := hsp; exact ⟨σ1, H1, J.ofTry ok, q⟩
    | ret u => obtain ⟨v, σ1, H1, J, r, q⟩ := hsp; exact ⟨v, σ1, H1, J.ofTry ok, r, q⟩⟩
end
/-! ### Unlike.__init__, need_kinds and takes_no_less of unlike kinds -/
abbrev FnQ (K : PySem.W.Frag) (x qual : Str) (st : Stmt) (f : Addr) (fd : FuncData) : Prop := FunD K x qual (defArgs st) (defBody st) (defScope st) [] [] f fd
abbrev sUInit : Stmt := mS 4 0
theorem scUInit : FnScope ["self", "what"] ["self", "what"] (defScope sUInit) := ⟨rfl, rfl, rfl, by decide +kernel, rfl, by decide +kernel, by decide +kernel⟩
def spUInit (C : Addr) : Sp := fun vs H Q _ => ∃ (a : Addr) (y : V), vs = [.ref a, y] ∧ H a = some (exo a C none) ∧ ∀ dx, H dx = none → dx ≠ a → Q .non (upd (upd H dx (exd dx [("what", y)])) a (exo a C (some dx)))
abbrev whatF : List (Str × V) := [("what", .str "kinds")]
/-- two lists of bids of unlike kinds -/
def spUnlike (C CU : Addr) : Sp := fun vs H _ E => ∃ (a1 a2 d1 d2 : Addr) (k1 k2 : Int) (r1 r2 : V), vs = [.ref a1, .ref a2] ∧ H a1 = some (.ins C d1 [("kinds", .int k1), ("rows", r1)]) ∧ H a2 = some (.ins C d2 [("kinds", .int k2), ("rows", r2)]) ∧ k1 ≠ k2 ∧
  ∀ dx H', (∀ b o, H b = some o → H' b = some o) → H' dx = some (.xd whatF) → E (.ref CU) (some dx) H'
section
variable {P : Program} {w : World} {K : PySem.W.Frag} {mg : Str → Option Value} {base : Heap} {f : Addr} {fd : FuncData} {B C CU : Addr}
theorem ok_uinit (F : FnQ K "__init__" "Unlike.__init__" sUInit f fd) (T : OexC K CU) (hB : mg "BidError" = some (.ref B)) (FB : BaseC K B) (no : PySem.W.findIn K (.ref CU) "what" = some none) : FnOk P w K mg base CX0 1 f fd ["self", "what"] (spUInit CU) := by
  refine F.ok scUInit (fun vs H Q E h => ?_) (fun cdv A outer s H vs Q E hr h => ⟨_, PSs.nox (pss_cons (ps_expr (pe_binit rfl hB FB (pa_cons (pv 0) (pa_cons pe_str pa_nil)))) (pss_one (ps_ost (pv 0) (pv 1)))), ?_⟩)
  · obtain ⟨a, y, rfl, _⟩ := h; rfl
  · obtain ⟨a, y, rfl, ha, q⟩ := h
    refine ⟨_, rfl, a, CU, [_], rfl, by decide, T, ha, ?_⟩
    exact ⟨_, rfl, _, rfl, a, CU, rfl, T, no, .inl ⟨ha, fun dx h1 h2 => q dx h1 h2⟩⟩
end
end AB
namespace AB
open PySem PySem.Spec PyProof.Rows L2
section
variable {P : Program} {w : World} {K : PySem.W.Frag} {mg : Str → Option Value} {base : Heap} {f : Addr} {fd : FuncData} {B C CU : Addr}
/-- the class Unlike, ready to be made -/
structure UnlikeG (P : Program) (w : World) (K : PySem.W.Frag) (mg : Str → Option Value) (base : Heap) (CU : Addr) : Prop where
  glo : mg "Unlike" = some (.ref CU)
  cls : OexC K CU
  init : ∃ f fd, PySem.W.findIn K (.ref CU) "__init__" = some (some (.ref f)) ∧ PySem.W.typeIn K (.ref f) = some (.type "function") ∧ Binds K fd ["self", "what"] [] ∧ FnOk P w K mg base CX0 1 f fd ["self", "what"] (spUInit CU)
theorem ok_need_x (F : FnP K "need_kinds" sNeedL f fd) (hc : Cls K C) (n1 : NoAttr K C "kinds") (U : UnlikeG P w K mg base CU) : FnOk P w K mg base (L2.CX P w) 3 f fd ["one", "other"] (spUnlike C CU) := by
  obtain ⟨fI, fdI, i1, i2, i3, FI⟩ := U.init
  refine F.ok scNeedL (fun vs H Q E h => ?_) (fun cdv A outer s H vs Q E hr h => ⟨_, pss_one (ps_if (pt_cmpR op_ne (pe_fld (pv 0) rfl) (pe_fld (pv 1) rfl) (nomark _))
    (pss_one (ps_raise rfl (takes_of rfl rfl rfl rfl) (pmk_oex U.cls i1 i2 FI (hr.mono (by decide)) i3 .nil pass0 rfl U.glo (pa_cons pe_str pa_nil)))) pss_nil), ?_⟩)
  · obtain ⟨a1, a2, d1, d2, k1, k2, r1, r2, rfl, _⟩ := h; rfl
  · obtain ⟨a1, a2, d1, d2, k1, k2, r1, r2, rfl, h1, h2, hk, q⟩ := h
    refine ⟨_, rfl, a1, C, d1, _, _, rfl, h1, hc, n1, rfl, _, rfl, a2, C, d2, _, _, rfl, h2, hc, n1, rfl, rfl, true, ?_, ?_⟩
    · show V.bl _ = V.bl _
      rw [dI_eq, decide_eq_false hk]
      rfl
    · show _
      refine ⟨by decide, fun a ha => ⟨a, _, rfl, upd_same, fun dx h3 h4 => ⟨rfl, dx, whatF, upd_same, ?_, ?_, ?_⟩⟩⟩
      · rw [upd_ne h4, upd_same]
      · rw [upd_ne h4] at h3; exact h3
      · refine q dx _ (fun b o hb => ?_) upd_same
        have n1 : b ≠ dx := fun z => by rw [upd_ne h4] at h3; rw [z, h3] at hb; cases hb
        have n2 : b ≠ a := fun z => by rw [z, ha] at hb; cases hb
        rw [upd_ne n1, del_ne n2, upd_ne n2, upd_ne n1, upd_ne n2]
        exact hb
theorem ok_takes_x (F : FnP K "takes_no_less" sTakes f fd) {fn : Addr} {fdn : FuncData} (mN : mg "need_kinds_likeness" = some (.ref fn)) (kN : PySem.W.keepIn K (.ref fn) = true) (bN : Binds K fdn ["one", "other"] [])
    (FN : FnOk P w K mg base (L2.CX P w) 3 fn fdn ["one", "other"] (spUnlike C CU)) : FnOk P w K mg base (L2.CX P w) 4 f fd ["one", "other"] (spUnlike C CU) := by
  refine F.ok scTakes (fun vs H Q E h => ?_) (fun cdv A outer s H vs Q E hr h => ⟨_, pss_cons (ps_expr (pe_call (E := E) FN (hr.mono (by decide)) rfl mN kN bN .nil (passes_call (takes_of rfl rfl rfl rfl) fun _ _ _ _ z => z) (pa_cons (pv 0) (pa_cons (pv 1) pa_nil)))) any_ss, ?_⟩)
  · obtain ⟨a1, a2, d1, d2, k1, k2, r1, r2, rfl, _⟩ := h; rfl
  · obtain ⟨a1, a2, d1, d2, k1, k2, r1, r2, rfl, q⟩ := h
    exact ⟨_, rfl, _, rfl, a1, a2, d1, d2, k1, k2, r1, r2, rfl, q⟩
end
/-! ### _law_fault around it -/
abbrev sFault : Stmt := topS 59
theorem scFault : FnScope ["_law_call", "_law_found", "error"] ["_law_call"] (defScope sFault) := ⟨rfl, rfl, rfl, by decide +kernel, rfl, by decide +kernel, by decide +kernel⟩
def TFault (K : PySem.W.Frag) (CR CU : Addr) : (XK → Hp → VK → Prop) → Hp → VK → Prop := fun tl H Q => ∀ H1, (∀ b o, H b = some o → H1 b = some o) → ∀ Q' : VK,
  tl (fun cls d H2 => cls = .ref CU ∧ PySem.W.exmOne K (.ref CU) (.ref CR) = some false ∧ PySem.W.exmOne K (.ref CU) (.ref CU) = some true ∧ ∃ dx, d = some dx ∧ H2 dx = some (.xd whatF) ∧ ∀ p H3, H3 p = some (.tup [.str "unlike", .str "kinds"]) → Q (.ref p) H3) H1 Q'
theorem fault_gives {X : Cx} {g CR CU : Addr} {cdg : Value} {q : Str} (mR : X.mg "BadRow" = some (.ref CR)) (mU : X.mg "Unlike" = some (.ref CU)) (T : XfC X.K CU) (no : PySem.W.findIn X.K (.ref CU) "what" = some none) :
    LamX.GivesTo X ["_law_call", "_law_found", "error"] "_law_fault" (defScope sFault) g cdg (defBody sFault) "_law_call" q (TFault X.K CR CU) := by
  intro f c' s H Q tl act hc h
  refine ⟨_, pss_cons (ps_set (i := 1) scFault.nd rfl (.inl rfl) (pe_tup (pa_cons pe_str pa_nil)))
    (pss_cons (ps_try_2nd (X := (cxOf C8.CX0 X.prog X.w X.K X.mg X.base ["_law_call", "_law_found", "error"] "_law_fault" (defScope sFault) g cdg X.A X.stack s H C8.E0).nox) (i := 2) (c1 := .ref CR) (c2 := .ref CU)
      (tb := fun W D σ H => ∃ Ech : XK, (∀ cls d σ' H', Ech cls d H' → W cls d σ' H') ∧ σ[0]? = some (some (.ref f)) ∧ H c' = some (LamX.CodeO c' q) ∧ ∀ Q' : VK, tl Ech H Q')
      (ts := fun a cls d => tAsg (tTup (tCons (tC (.str "unlike")) (tCons (tXf a cls d CU "what" (tVar 2)) tNil))) (gName 1))
      rfl rfl scFault.nd rfl rfl ⟨rfl, by decide, .inl mR⟩ ⟨rfl, by decide, .inl mU⟩ (fun W pn xe tk _ => ?_) (fun a oe cls d pn hz hf => ?_))
    (pss_one (ps_ret (pv 1)))), ?_⟩
  · refine ⟨fun pins s' σ H' D I h' => ?_⟩
    obtain ⟨Ech, hW, h1, h2, h3⟩ := h'
    exact (pss_one (ps_expr (act W pn xe Ech _ _ tk hW))).run pins s' σ H' D I ⟨h1, h2, h3 _⟩
  · exact pss_one (ps_set (i := 1) scFault.nd rfl (.inl rfl) (pe_tup (pa_cons pe_str (pa_cons (pe_xf T no hz hf (pv 2)) pa_nil))))
  · refine ⟨by decide, fun p hp => ?_⟩
    refine ⟨fun cls d H2 => cls = .ref CU ∧ PySem.W.exmOne X.K (.ref CU) (.ref CR) = some false ∧ PySem.W.exmOne X.K (.ref CU) (.ref CU) = some true ∧ ∃ dx, d = some dx ∧ H2 dx = some (.xd whatF) ∧ ∀ p H3, H3 p = some (.tup [.str "unlike", .str "kinds"]) → Q (.ref p) H3, fun cls d σ' H' hh => ?_, rfl, ?_, h _ fun b o hb => ?_⟩
    · obtain ⟨rfl, e1, e2, dx, rfl, e3, e4⟩ := hh
      refine ⟨e1, e2, fun hl a ha => ?_⟩
      have h2 : 2 < σ'.length := hl ▸ (by decide : 2 < 3)
      refine ⟨_, List.getElem?_set_self h2, rfl, rfl, dx, whatF, _, rfl, e3, rfl, by decide, fun p2 hp2 => ?_⟩
      refine ⟨.ref p2, ?_, e4 p2 _ upd_same⟩
      rw [List.getElem?_set_ne (by decide), List.getElem?_set_self (by rw [List.length_set]; omega)]
    · rw [upd_ne (ne_of_none hc hp)]
      exact hc
    · rw [upd_ne (ne_of_none hb hp)]
      exact hb
end AB
namespace AB
open PySem PySem.Spec PyProof.Rows L2
/-! ### an int in a range, isinstance of an own class, == of two instances -/
section
variable {X : Cx} {e a : Expr} {ρ : Env'} {O : Own} {pos p : Pos}
abbrev rRng1 : List V → Hp → VK → Prop := fun vs H Q => ∃ j, vs = [V.int j] ∧ ∀ p, H p = none → Q (.ref p) (upd H p (.rng 0 j))
theorem cr_rng1 : CallR X (.type "range") rRng1 := fun pins s σ H vs us Q I r ⟨j, ev, q⟩ => by
  subst ev
  obtain ⟨u, rfl, t, rfl⟩ := vals1 r
  exact call_range_1 ⟨.ref s.heap.objs.size, upd H s.heap.objs.size (.rng 0 j), I.laid (t' := s.toks + 1 + 1) (fun _ _ e => Heap.get?_push_of_some _ e) (Nat.le_refl _) ⟨s.toks, t, s.toks + 1, Heap.get?_push_size _ rfl⟩, rfl, q _ (I.hok.fresh (Nat.le_refl _))⟩
theorem rc_rng1 {P : Program} {w : World} {j : Int} {post : D → Own → Prop} (k : ∀ p, post (.raw (.ref p)) ((p, .any (.rng 0 j)) :: O)) : RC P w rRng1 [.int j] O post := fun I H vs e o n Q q => by
  obtain ⟨v, rfl, ev⟩ := den1 n
  refine ⟨j, by rw [show v = V.int j from ev], fun p hp => ?_⟩
  have s : Stt P w I H [] [] O := ⟨e, rfl, fun _ _ z => by simp at z, o⟩
  obtain ⟨g, s2⟩ := stt_new (o := .rng 0 j) (m := .any (.rng 0 j)) s hp upd_same
  exact q (.ref p) I _ (.raw (.ref p)) _ g s2.own rfl (k p)
abbrev rNinR : R2 := fun x y H Q => ∃ i a lo hi, x = V.int i ∧ y = V.ref a ∧ H a = some (.rng lo hi) ∧ Q (.bl (!decide (lo ≤ i ∧ i < hi))) H
theorem op_ninR : OpR X (compareOp .NotIn) rNinR := fun pins s σ H x y v u Q I rx ry ⟨i, a, lo, hi, ex, ey, ha, q⟩ => by
  subst ex ey
  obtain ⟨k, rfl⟩ := rx
  cases (show u = Value.ref a from ry)
  obtain ⟨t1, t2, t3, ho⟩ := I.hok a _ ha
  show wpAny _ _ (do return Value.bool (!(← contains (Value.ref a) (Value.int i k)))) _ _ s
  refine wpAny_bind (wpAny_contains_slot (T := "range") ⟨_, ho, rfl⟩ F.slot_range_contains (call_meets F.slot_range_contains ⟨_, ho, rfl⟩ F.entry_range_contains (F.args_range_contains_2 _ _) (q_contains a lo hi i t1 t2 t3 k) ⟨ho, wpAny_truthy_bool (wpAny_pure ⟨.bl _, H, I, rfl, ?_⟩)⟩))
  rw [place1]
  exact q
theorem rd_ninR {P : Program} {w : World} {i lo hi : Int} {j : Nat} {p : Addr} {post : D → Own → Prop} (hj : O[j]? = some (p, .any (.rng lo hi))) (k : post (.bl (!decide (lo ≤ i ∧ i < hi))) O) : RD P w rNinR (.int i) (.raw (.ref p)) O post := fun I H v1 v2 e o n1 n2 Q q => by
  obtain ⟨_, h2⟩ := o.own _ (List.mem_of_getElem? hj)
  exact ⟨i, p, lo, hi, n1, n2, h2, q (.bl _) I H (.bl _) O (Grow.refl e) o rfl k⟩
/-- a class by its name -/
theorem de_cls {x : Str} {C : Addr} {post : D → Own → Prop} (hg : Gl X x) (hm : X.mg x = some (.ref C)) (hd : (x == ("__debug__" : Str)) = false) (k : post (.raw (.ref C)) O) : DE X (.Name x pos) ρ O post :=
  de_c (v := .ref C) (d := .raw (.ref C)) (pe_glob hg hm (v := .ref C) rfl hd) (fun _ => rfl) k
abbrev rIsC (C : Addr) : List V → Hp → VK → Prop := fun xs H Q => ∃ a dx fs, xs = [.ref a, .ref C] ∧ H a = some (.ins C dx fs) ∧ Q (.bl true) H
theorem rc_isC {P : Program} {w : World} {C : Addr} {fs : List Str} {ds : List D} {post : D → Own → Prop} (k : post (.bl true) O) : RC P w (rIsC C) [.ins C fs ds, .raw (.ref C)] O post := fun I H vs e o n Q q => by
  obtain ⟨v1, v2, rfl, n1, n2⟩ := den2 n
  obtain ⟨a, dx, xs, rfl, ha, _⟩ := n1
  exact ⟨a, dx, _, by rw [show v2 = V.ref C from n2], e _ _ ha, q (.bl true) I H (.bl true) O (Grow.refl e) o rfl k⟩
end
/-! == of instances without an own __eq__ -/
structure EqC (K : PySem.W.Frag) (C : Addr) : Prop where
  top : PySem.W.mroIn K C (.type "object") = some true
  eq : PySem.W.findIn K (.ref C) "__eq__" = some (some (.builtin "object.__eq__"))
section
open PySem.SeqAt
variable {prog : Program} {w : World} {A : Around} {E : Value → Shared → Prop} {s : Shared} {K : PySem.W.Frag} {x y C : Addr} {ox oy : Obj} {dx dy : Option Obj}
theorem try_apart (V : K.In s.heap) (I : PySem.W.InstAt s.heap x ox C dx) (J : PySem.W.InstAt s.heap y oy C dy) (c : EqC K C) (ne : x ≠ y) {Q : Option Value → Shared → Prop} (q : Q none s) : wpAny (model prog w) A (tryCompare (.ref x) "__eq__" (.ref y)) Q E s := by
  unfold tryCompare
  refine wpAny_bind (HN.ifBound_objEq V I c.eq ?_)
  refine wpAny_call (codeAny_call_builtin F.cmp_object.eq.plain F.cmpEntry_eq (PySem.W.check_slot F.cmpKind_eq F.cmpSplit_eq (I.type.andThen (PySem.W.looks_mroIn V c.top)) (F.cmpArgs_eq _ _) ?_))
  exact objEq_entry_other ne I.1 J.1 (fun z => by rw [I.cls] at z; cases z) (wpAny_pure q)
theorem rich_apart (hu : A.units < cLine) (V : K.In s.heap) (I : PySem.W.InstAt s.heap x ox C dx) (J : PySem.W.InstAt s.heap y oy C dy) (c : EqC K C) (ne : x ≠ y) {Q : Value → Shared → Prop} (q : Q (.bool false) s) : wpAny (model prog w) A (richCompare .Eq (.ref x) (.ref y)) Q E s := by
  simp only [richCompare, cmpInfo_Eq, oneThing_ref]
  refine wpAny_holding (wpAny_bind (wpAny_cRoomFor hu (wpAny_bind (I.type.here (wpAny_bind (J.type.here ?_))))))
  rw [if_neg (show ¬ (Value.ref C != Value.ref C) = true by simp)]
  refine wpAny_bind (wpAny_pure ?_)
  simp only [Bool.false_eq_true, if_false, Bool.not_false, if_true]
  refine wpAny_bind (try_apart V I J c ne ?_)
  refine wpAny_bind (try_apart V J I c (Ne.symm ne) ?_)
  refine wpAny_bind (wpAny_rule (wpAny_bind ?_))
  exact wpAny_isSame_ref_other ne I.1 J.1 (fun z => by rw [I.cls] at z; cases z) (wpAny_pure q)
end
section
variable {X : Cx} {O : Own}
abbrev rApart (C : Addr) : R2 := fun x y H Q => ∃ a b dx dy fs gs, x = .ref a ∧ y = .ref b ∧ a ≠ b ∧ H a = some (.ins C dx fs) ∧ H b = some (.ins C dy gs) ∧ Q (.bl false) H
theorem op_apart {C : Addr} (hu : X.A.units < cLine) (c : EqC X.K C) : OpR X (compareOp .Eq) (rApart C) := fun pins s σ H x y v u Q I rx ry ⟨a, b, dx, dy, fs, gs, ex, ey, ne, ha, hb, q⟩ => by
  subst ex ey
  cases (show v = Value.ref a from rx)
  cases (show u = Value.ref b from ry)
  obtain ⟨mA, OA, _⟩ := ins_get I.hok ha
  obtain ⟨oA, JA, _⟩ := OA.look
  obtain ⟨mB, OB, _⟩ := ins_get I.hok hb
  obtain ⟨oB, JB, _⟩ := OB.look
  exact rich_apart hu I.kIn JA JB c ne ⟨.bl false, H, I, rfl, q⟩
theorem rd_apart {P : Program} {w : World} {C p1 p2 : Addr} {i j : Nat} {f1 f2 : List Str} {d1 d2 : List D} {post : D → Own → Prop} (hi : O[i]? = some (p1, .ins C f1 d1)) (hj : O[j]? = some (p2, .ins C f2 d2)) (hij : i ≠ j) (k : post (.bl false) O) : RD P w (rApart C) (.raw (.ref p1)) (.raw (.ref p2)) O post := fun I H v1 v2 e o n1 n2 Q q => by
  obtain ⟨_, dx, xs, h1, _⟩ := o.own _ (List.mem_of_getElem? hi)
  obtain ⟨_, dy, ys, h2, _⟩ := o.own _ (List.mem_of_getElem? hj)
  refine ⟨p1, p2, dx, dy, _, _, n1, n2, fun z => hij ?_, h1, h2, q (.bl false) I H (.bl false) O (Grow.refl e) o rfl k⟩
  have a1 : (adr O)[i]? = some p1 := by unfold adr; rw [List.getElem?_map, hi]; rfl
  have a2 : (adr O)[j]? = some p1 := by unfold adr; rw [List.getElem?_map, hj, z]; rfl
  exact (List.getElem?_inj (List.getElem?_eq_some_iff.mp a1).1 o.nd).mp (a1.trans a2.symm)
end
end AB
namespace AB
open PySem PySem.Spec PyProof.Rows L2
local macro_rules | `(tactic| walk_at "d") => `(tactic| first
  | refine dss_cons ?_ | refine dss_nil ?_ | refine ds_ret ?_ | refine ds_if ?_
  | refine de_v rfl (by first | exact .inl rfl | exact .inr (.inl rfl) | exact .inr (.inr rfl)) (by decide) (by decide) rfl ?_
  | refine de_int ?_ | refine de_bl ?_ | refine de_non ?_ | refine de_str ?_
  | refine de_and ?_ | refine de_or ?_ | refine de_one ?_ | refine de_not ?_ | refine dt_not ?_ | refine dt_w (dw_and ?_) | refine dt_w (dw_or ?_) | refine dw_and ?_ | refine dw_or ?_ | refine dw_and1 ?_ | refine dw_or1 ?_
  | refine da_cons rfl ?_ | refine da_nil ?_
  | refine dg_tup rfl rfl rfl ?_ | refine dgs_cons rfl ?_ | refine dgs_nil ?_ | refine dg_v (by assumption) rfl (by first | exact .inl rfl | exact .inr rfl) (by first | exact .inr rfl | exact .inl rfl) (by decide) ?_
  | refine de_tup ?_ | refine de_if ?_ | refine de_negI ?_ | refine de_neg ?_ | refine de_ix (fun _ _ => rfl) ?_
  | refine ds_st (by assumption) rfl (by first | exact .inl rfl | exact .inr rfl) rfl (by first | exact .inl rfl | exact .inr rfl) ?_)
local macro_rules | `(tactic| walk_at "e") => `(tactic| first
  | refine dss_cons ?_ | refine dss_nil ?_ | refine ds_ret ?_ | refine ds_if ?_
  | refine de_v rfl (by first | exact .inl rfl | exact .inr (.inl rfl) | exact .inr (.inr rfl)) (by decide) (by decide) rfl ?_
  | refine de_int ?_ | refine de_bl ?_ | refine de_non ?_ | refine de_str ?_
  | refine de_and ?_ | refine de_or ?_ | refine de_one ?_ | refine de_not ?_ | refine dt_not ?_ | refine dt_w (dw_and ?_) | refine dt_w (dw_or ?_) | refine dw_and ?_ | refine dw_or ?_ | refine dw_and1 ?_ | refine dw_or1 ?_
  | refine da_cons rfl ?_ | refine da_nil ?_
  | refine dg_tup rfl rfl rfl ?_ | refine dgs_cons rfl ?_ | refine dgs_nil ?_ | refine dg_v (by assumption) rfl (by first | exact .inl rfl | exact .inr rfl) (by first | exact .inr rfl | exact .inl rfl) (by decide) ?_
  | refine de_tup ?_ | refine de_if ?_ | refine de_negI ?_
  | refine ds_st (by assumption) rfl (by first | exact .inl rfl | exact .inr rfl) rfl (by first | exact .inl rfl | exact .inr rfl) ?_)
local macro_rules | `(tactic| walk_at "isi") => `(tactic| refine de_callB call_isi rfl (Bn.isinstance (by assumption)) boot_isinstance (by decide) (by decide) rfl rfl ?_)
local macro_rules | `(tactic| walk_at "isiT") => `(tactic| refine de_callB call_isiT rfl (Bn.isinstance (by assumption)) boot_isinstance (by decide) (by decide) rfl rfl ?_)
local macro_rules | `(tactic| walk_at "int") => `(tactic| refine de_ty rfl (Bn.int (by assumption)) boot_int (by decide) (by decide) ?_)
local macro_rules | `(tactic| walk_at "bool") => `(tactic| refine de_ty rfl (Bn.bool (by assumption)) boot_bool (by decide) (by decide) ?_)
local macro_rules | `(tactic| walk_at "tuple") => `(tactic| refine de_ty rfl (Bn.tuple (by assumption)) boot_tuple (by decide) (by decide) ?_)
local macro_rules | `(tactic| walk_at "list") => `(tactic| refine de_ty rfl (Bn.list (by assumption)) boot_list (by decide) (by decide) ?_)
local macro_rules | `(tactic| walk_at "len") => `(tactic| refine de_callB call_len_seq rfl (Bn.len (by assumption)) boot_len (by decide) (by decide) rfl rfl ?_)

local macro_rules | `(tactic| walk_at "tupof") => `(tactic| refine de_callTy call_tuple_of rfl (Bn.tuple (by assumption)) boot_tuple (by decide) (by decide) rfl rfl ?_)
local macro_rules | `(tactic| walk_at "all") => `(tactic| refine de_callB (cr_all rfl) rfl (Bn.all (by assumption)) boot_all (by decide) (by decide) rfl rfl ?_)
local macro_rules | `(tactic| walk_at "any") => `(tactic| refine de_callB (cr_any rfl) rfl (Bn.any (by assumption)) boot_any (by decide) (by decide) rfl rfl ?_)
local macro_rules | `(tactic| walk_at "val") => `(tactic| refine dt_val (by intro _; rfl) ?_)
local macro_rules | `(tactic| walk_at "T") => `(tactic| refine iT (by first | rfl | assumption) ?_)
local macro_rules | `(tactic| walk_at "F") => `(tactic| refine iF (by first | rfl | assumption) ?_)
local macro_rules | `(tactic| walk_at "lc") => `(tactic| refine de_lc (Oz := []) rfl (by assumption) (blkOk_by (by kernel_rfl)) (by decide) (by intro _; rfl) ?_)
local macro_rules | `(tactic| walk_at "listof") => `(tactic| refine de_callTy call_list_of rfl (Bn.list (by assumption)) boot_list (by decide) (by decide) rfl rfl ?_)
local macro_rules | `(tactic| walk_at "max") => `(tactic| refine de_callB (cr_maxT rfl (room9 (by assumption))) rfl (Bn.max (by assumption)) boot_max (by decide) (by decide) rfl rfl ?_)
local macro_rules | `(tactic| walk_at "min") => `(tactic| refine de_callB (cr_minT rfl (room9 (by assumption))) rfl (Bn.min (by assumption)) boot_min (by decide) (by decide) rfl rfl ?_)
local macro_rules | `(tactic| walk_at "rng1") => `(tactic| refine di_rng1 rfl (Bn.range (by assumption)) rfl ?_)
local macro_rules | `(tactic| walk_at "lrng1") => `(tactic| refine de_listRg1 rfl (Bn.list (by assumption)) rfl (Bn.range (by assumption)) rfl rfl rfl ?_)
local macro_rules | `(tactic| walk_at "lrng2") => `(tactic| refine de_listRg2 rfl (Bn.list (by assumption)) rfl (Bn.range (by assumption)) rfl rfl rfl rfl rfl ?_)
local macro_rules | `(tactic| walk_at "expr") => `(tactic| refine ds_expr rfl ?_)
local macro_rules | `(tactic| walk_at "sortedP") => `(tactic| refine de_callB cr_sortedPO rfl (Bn.sorted (by assumption)) boot_sorted (by decide) (by decide) rfl rfl ?_)
local macro_rules | `(tactic| walk_at "intof") => `(tactic| refine de_callTy call_int1 rfl (Bn.int (by assumption)) boot_int (by decide) (by decide) rfl rfl ?_)
local macro_rules | `(tactic| walk_at "abs") => `(tactic| refine de_callB call_abs rfl (Bn.abs (by assumption)) boot_abs (by decide) (by decide) rfl rfl ?_)
local macro_rules | `(tactic| walk_at "min2") => `(tactic| refine de_callB (call_min2 rfl) rfl (Bn.min (by assumption)) boot_min (by decide) (by decide) rfl rfl ?_)
section
section
variable {κ : Type} [DecidableEq κ]
/-! ### the plain law: sums of weights -/
def sumP (φ : κ → Bool) (R : List (Int × κ)) : Int := ((R.filter fun r => φ r.2).map (·.1)).sum
theorem sumP_nil (φ : κ → Bool) : sumP φ [] = 0 := rfl
theorem sumP_cons (φ : κ → Bool) (r : Int × κ) (R : List (Int × κ)) : sumP φ (r :: R) = (if φ r.2 = true then r.1 else 0) + sumP φ R := by
  unfold sumP
  by_cases h : φ r.2 = true
  · simp [h]
  · simp [h]
theorem sumP_append (φ : κ → Bool) : ∀ (R S : List (Int × κ)), sumP φ (R ++ S) = sumP φ R + sumP φ S
  | [], S => by rw [List.nil_append, sumP_nil, Int.zero_add]
  | r :: R, S => by rw [List.cons_append, sumP_cons, sumP_cons, sumP_append φ R S, Int.add_assoc]
theorem sumP_neg (φ : κ → Bool) : ∀ (R : List (Int × κ)), sumP φ (R.map fun r => (-r.1, r.2)) = -sumP φ R
  | [] => rfl
  | r :: R => by
    rw [List.map_cons, sumP_cons, sumP_cons, sumP_neg φ R]
    by_cases h : φ r.2 = true
    · rw [if_pos h, if_pos h]; omega
    · rw [if_neg h, if_neg h]; omega
theorem sumP_map {μ : Type} [DecidableEq μ] (φ : μ → Bool) (f : κ → μ) : ∀ (R : List (Int × κ)), sumP φ (R.map fun r => (r.1, f r.2)) = sumP (fun x => φ (f x)) R
  | [] => rfl
  | r :: R => by rw [List.map_cons, sumP_cons, sumP_cons, sumP_map φ f R]
theorem sumP_congr {φ ψ : κ → Bool} : ∀ {R : List (Int × κ)}, (∀ r ∈ R, φ r.2 = ψ r.2) → sumP φ R = sumP ψ R
  | [], _ => rfl
  | r :: R, h => by rw [sumP_cons, sumP_cons, h r List.mem_cons_self, sumP_congr fun q hq => h q (List.mem_cons_of_mem _ hq)]
theorem totG_sum (R : List (Int × κ)) (x : κ) : totG R x = sumP (fun y => decide (y = x)) R := rfl
theorem sumP_split (φ : κ → Bool) (x : κ) : ∀ (R : List (Int × κ)), sumP φ R = sumP φ (R.filter fun r => !decide (r.2 = x)) + if φ x = true then totG R x else 0
  | [] => by simp [sumP, totG]
  | r :: R => by
    have ih := sumP_split φ x R
    rw [sumP_cons, ih, totG_sum, totG_sum, sumP_cons]
    by_cases h : r.2 = x
    · rw [List.filter_cons_of_neg (by simp [h]), h]
      by_cases hx : φ x = true
      · simp [hx]; omega
      · simp [hx]
    · rw [List.filter_cons_of_pos (by simp [h]), sumP_cons]
      by_cases hx : φ x = true
      · simp [hx, h]; omega
      · simp [hx]
theorem totG_filter {x y : κ} (h : y ≠ x) : ∀ (R : List (Int × κ)), totG (R.filter fun r => !decide (r.2 = x)) y = totG R y
  | [] => rfl
  | r :: R => by
    have ih := totG_filter h R
    rw [totG_sum, totG_sum] at ih ⊢
    by_cases hr : r.2 = x
    · rw [List.filter_cons_of_neg (by simp [hr]), sumP_cons, ih, if_neg (by simp [hr]; exact fun e => h e.symm), Int.zero_add]
    · rw [List.filter_cons_of_pos (by simp [hr]), sumP_cons, sumP_cons, ih]
theorem totG_out (x : κ) : ∀ (R : List (Int × κ)), totG (R.filter fun r => !decide (r.2 = x)) x = 0 := fun R => totG_none fun r hr e => by
  have := (List.mem_filter.mp hr).2
  simp [e] at this
theorem sumP_eq (φ : κ → Bool) : ∀ (n : Nat) (R out : List (Int × κ)), R.length + out.length ≤ n → (∀ x, φ x = true → totG out x = totG R x) → sumP φ out = sumP φ R
  | 0, R, out, hn, _ => by
    have h1 : R = [] := List.length_eq_zero_iff.mp (by omega)
    have h2 : out = [] := List.length_eq_zero_iff.mp (by omega)
    rw [h1, h2]
  | n + 1, R, out, hn, h => by
    by_cases h0 : R.length + out.length ≤ n
    · exact sumP_eq φ n R out h0 h
    obtain ⟨x, hx⟩ : ∃ x, (R.filter fun r => !decide (r.2 = x)).length + (out.filter fun r => !decide (r.2 = x)).length ≤ n := by
      cases R with
      | cons r R =>
        refine ⟨r.2, ?_⟩
        rw [List.filter_cons_of_neg (by simp)]
        have := List.length_filter_le (fun q : Int × κ => !decide (q.2 = r.2)) R
        have := List.length_filter_le (fun q : Int × κ => !decide (q.2 = r.2)) out
        rw [List.length_cons] at hn
        omega
      | nil =>
        cases out with
        | nil => simp at h0
        | cons r out =>
          refine ⟨r.2, ?_⟩
          rw [List.filter_cons_of_neg (by simp)]
          have := List.length_filter_le (fun q : Int × κ => !decide (q.2 = r.2)) out
          rw [List.length_cons] at hn
          simp at hn ⊢
          omega
    rw [sumP_split φ x R, sumP_split φ x out]
    rw [sumP_eq φ n (R.filter fun r => !decide (r.2 = x)) (out.filter fun r => !decide (r.2 = x)) hx fun y hy => ?_]
    · by_cases hp : φ x = true
      · rw [if_pos hp, if_pos hp, h x hp]
      · rw [if_neg hp, if_neg hp]
    · by_cases e : y = x
      · subst e; rw [totG_out, totG_out]
      · rw [totG_filter e, totG_filter e]; exact h y hy
theorem totG_nodup : ∀ {out : List (Int × κ)}, (out.map (·.2)).Nodup → ∀ r ∈ out, totG out r.2 = r.1
  | [], _, r, hr => nomatch hr
  | q :: out, nd, r, hr => by
    rw [List.map_cons, List.nodup_cons] at nd
    rw [totG_sum, sumP_cons]
    rcases List.mem_cons.mp hr with rfl | hr
    · rw [if_pos (by simp), ← totG_sum, totG_none fun z hz e => nd.1 (List.mem_map.mpr ⟨z, hz, e⟩), Int.add_zero]
    · rw [if_neg (by simp; exact fun e => nd.1 (List.mem_map.mpr ⟨r, hr, e.symm⟩)), Int.zero_add, ← totG_sum]
      exact totG_nodup nd.2 r hr
theorem GM.tot {pos : κ → Bool} {R out : List (Int × κ)} (h : GM pos R out) {x : κ} (hx : pos x = true) : totG out x = totG R x := by
  by_cases hm : ∃ r ∈ out, r.2 = x
  · obtain ⟨r, hr, rfl⟩ := hm
    rw [totG_nodup h.nd r hr]
    exact ((h.mem r).mp hr).1
  · rw [totG_none fun r hr e => hm ⟨r, hr, e⟩]
    by_cases h0 : totG R x = 0
    · exact h0.symm
    · exact absurd ⟨(totG R x, x), (h.mem _).mpr ⟨rfl, h0, hx⟩, rfl⟩ hm
theorem GM.sum {pos : κ → Bool} {R out : List (Int × κ)} (h : GM pos R out) {φ : κ → Bool} (hp : ∀ x, φ x = true → pos x = true) : sumP φ out = sumP φ R :=
  sumP_eq φ _ R out (Nat.le_refl _) fun x hx => h.tot (hp x hx)
theorem IsMerge.gm {R out : List Row} (h : IsMerge R out) : GM anyPos R out := ⟨h.nd, h.mem⟩
end
theorem unitsG_sum (best : List Int → Int) (rs : List WRow) (j : Int) : unitsG best rs j = sumP (fun ns => decide (best ns = j)) rs := rfl
theorem unitStep_get (f : List Int → Option Nat) (acc : List Int) (r : WRow) (j : Nat) : (unitStep f acc r)[j]? = acc[j]?.map (· + if decide (f r.2 = some j) = true then r.1 else 0) := by
  unfold unitStep
  cases hf : f r.2 with
  | none => simp
  | some i =>
    show (addAt acc i r.1)[j]? = _
    unfold addAt
    by_cases e : i = j
    · subst e
      cases hj : acc[i]? with
      | none => rw [List.getElem?_eq_none (by rw [List.length_set]; exact List.getElem?_eq_none_iff.mp hj)]; rfl
      | some x =>
        obtain ⟨hl, hx⟩ := List.getElem?_eq_some_iff.mp hj
        rw [List.getElem?_set_self hl]
        simp [List.getD, hj]
    · rw [List.getElem?_set_ne e]
      have : ¬ (some i = some j) := fun z => e (Option.some.inj z)
      simp [e]
theorem units_get (f : List Int → Option Nat) (j : Nat) : ∀ (rows : List WRow) (acc : List Int), (rows.foldl (unitStep f) acc)[j]? = acc[j]?.map (· + sumP (fun ns => decide (f ns = some j)) rows)
  | [], acc => by simp [sumP]
  | r :: rows, acc => by
    rw [List.foldl_cons, units_get f j rows, unitStep_get, Option.map_map, sumP_cons]
    congr 1
    funext x
    simp only [Function.comp]
    omega
theorem unitsF_get (f : List Int → Option Nat) (k : Nat) (rows : List WRow) {j : Nat} (hj : j < k) : (unitsF f k rows)[j]? = some (sumP (fun ns => decide (f ns = some j)) rows) := by
  unfold unitsF
  rw [units_get, List.getElem?_replicate, if_pos hj]
  simp
/-- a place as a number, -1 for none -/
def bI : Option Nat → Int
  | none => -1
  | some i => (i : Int)
theorem bI_eq {o : Option Nat} {j : Nat} : bI o = (j : Int) ↔ o = some j := by
  cases o with
  | none => exact ⟨fun h => absurd (show (-1 : Int) = (j : Int) from h) (by omega), fun h => nomatch h⟩
  | some i => exact ⟨fun h => congrArg some (by have : (i : Int) = (j : Int) := h; omega), fun h => by show (i : Int) = (j : Int); have := Option.some.inj h; omega⟩
theorem rngI_at {k j : Nat} (h : j < k) : (rngI 0 k)[j]? = some (j : Int) := by
  unfold rngI; rw [List.getElem?_map, List.getElem?_range h]; simp
theorem rngI_len (k : Nat) : (rngI 0 k).length = k := by simp [rngI]
theorem rngI_mem {k : Nat} {j : Int} : j ∈ rngI 0 k ↔ ∃ n : Nat, n < k ∧ j = (n : Int) := by
  unfold rngI
  constructor
  · intro h
    obtain ⟨n, h1, rfl⟩ := List.mem_map.mp h
    exact ⟨n, List.mem_range.mp h1, by omega⟩
  · rintro ⟨n, h1, rfl⟩
    exact List.mem_map.mpr ⟨n, List.mem_range.mpr h1, by omega⟩
/-- the units of the program as sums -/
theorem unitsF_sum (f : List Int → Option Nat) (k : Nat) (rows : List WRow) : unitsF f k rows = (rngI 0 k).map fun j => sumP (fun ns => decide (bI (f ns) = j)) rows := by
  apply List.ext_getElem?
  intro j
  by_cases hj : j < k
  · rw [unitsF_get f k rows hj, List.getElem?_map, rngI_at hj]
    show some _ = some _
    congr 1
    refine sumP_congr fun r _ => ?_
    rw [Bool.eq_iff_iff]
    simp only [decide_eq_true_eq]
    exact bI_eq.symm
  · rw [List.getElem?_eq_none (by rw [unitsF_length]; omega), List.getElem?_eq_none (by rw [List.length_map, rngI_len]; omega)]
end
section
/-! ### the one best kind -/
/-- no value 0, no two equal ones above 0 -/
structure Clr (V : List Int) : Prop where
  nz : ∀ x ∈ V, x ≠ 0
  one : ∀ (i j : Nat) (x : Int), V[i]? = some x → V[j]? = some x → 0 < x → i = j
theorem topIx_none {V : List Int} : topIx V = none ↔ ∀ x ∈ V, x ≤ 0 := by
  unfold topIx
  by_cases h : 0 < mx V
  · rw [if_pos h]
    exact ⟨fun z => (nomatch z), fun z => absurd (z _ (mx_mem h)) (by omega)⟩
  · rw [if_neg h]
    exact ⟨fun _ x hx => by have := mx_ge hx; omega, fun _ => rfl⟩
theorem get_idxOf {V : List Int} {x : Int} (h : x ∈ V) : V[V.idxOf x]? = some x := by
  have hl := List.idxOf_lt_length_of_mem h
  rw [List.getElem?_eq_getElem hl, List.getElem_idxOf hl]
theorem topIx_some {V : List Int} (hc : Clr V) {i : Nat} : topIx V = some i ↔ ∃ x, V[i]? = some x ∧ 0 < x ∧ ∀ y ∈ V, y ≤ x := by
  unfold topIx
  by_cases h : 0 < mx V
  · rw [if_pos h]
    have hm := get_idxOf (mx_mem h)
    constructor
    · intro e
      cases e
      exact ⟨_, hm, h, fun y hy => mx_ge hy⟩
    · rintro ⟨x, h1, h2, h3⟩
      have a := h3 _ (mx_mem h)
      have b := mx_ge (List.mem_of_getElem? h1)
      have e : x = mx V := by omega
      subst e
      exact congrArg some (hc.one _ _ _ hm h1 h)
  · rw [if_neg h]
    constructor
    · intro e; cases e
    · rintro ⟨x, h1, h2, _⟩
      have := mx_ge (List.mem_of_getElem? h1)
      omega
theorem topIx_lt {V : List Int} {i : Nat} (h : topIx V = some i) : i < V.length := by
  unfold topIx at h
  split at h
  · rename_i hp
    cases h
    exact List.idxOf_lt_length_of_mem (mx_mem hp)
  · cases h
/-- two lists of values in one order -/
theorem topIx_congr {V W : List Int} (hc : Clr V) (hw : Clr W) (hl : V.length = W.length) (hp : ∀ (i : Nat) (x y : Int), V[i]? = some x → W[i]? = some y → (0 < x ↔ 0 < y))
    (ho : ∀ (i j : Nat) (x y x' y' : Int), V[i]? = some x → W[i]? = some y → V[j]? = some x' → W[j]? = some y' → 0 < x → 0 < x' → (x < x' ↔ y < y')) : topIx V = topIx W := by
  have at_ : ∀ (i : Nat) (y : Int), W[i]? = some y → ∃ x, V[i]? = some x := fun i y h => ⟨_, List.getElem?_eq_getElem (by have := (List.getElem?_eq_some_iff.mp h).1; omega)⟩
  have at' : ∀ (i : Nat) (y : Int), V[i]? = some y → ∃ x, W[i]? = some x := fun i y h => ⟨_, List.getElem?_eq_getElem (by have := (List.getElem?_eq_some_iff.mp h).1; omega)⟩
  cases h : topIx V with
  | none =>
    symm
    rw [topIx_none] at h ⊢
    intro y hy
    obtain ⟨i, hi⟩ := List.mem_iff_getElem?.mp hy
    obtain ⟨x, hx⟩ := at_ i y hi
    have := h x (List.mem_of_getElem? hx)
    have := hp i x y hx hi
    omega
  | some i =>
    symm
    obtain ⟨x, h1, h2, h3⟩ := (topIx_some hc).mp h
    obtain ⟨y, hy⟩ := at' i x h1
    refine (topIx_some hw).mpr ⟨y, hy, (hp i x y h1 hy).mp h2, fun y' hy' => ?_⟩
    obtain ⟨j, hj⟩ := List.mem_iff_getElem?.mp hy'
    obtain ⟨x', hx'⟩ := at_ j y' hj
    have h5 := h3 x' (List.mem_of_getElem? hx')
    have h0 := (hp i x y h1 hy).mp h2
    have h6 := hp j x' y' hx' hj
    by_cases h7 : 0 < x'
    · have := ho i j x y x' y' h1 hy hx' hj h2 h7
      omega
    · omega
/-- a kind: wanted?, its number less the price, the step of the price -/
abbrev Z3 := Bool × Int × Int
def val (a c : Int) (z : Z3) : Int := if z.1 = true then a * z.2.1 - z.2.2 else c
structure StOk (zs : List Z3) : Prop where
  one : ∀ z ∈ zs, z.2.2 ≠ 0 ∧ -3 ≤ z.2.2 ∧ z.2.2 ≤ 3
  two : ∀ (i j : Nat) (z z' : Z3), zs[i]? = some z → zs[j]? = some z' → i ≠ j → z.2.2 ≠ z'.2.2 ∧ z.2.2 - z'.2.2 ≤ 3
theorem cmp_pos {a y s : Int} (ha : 4 ≤ a) (h1 : -3 ≤ s) (h2 : s ≤ 3) : 0 < a * y - s ↔ 0 < y ∨ (y = 0 ∧ s < 0) := by
  rcases Int.lt_trichotomy y 0 with h | h | h
  · have : a * y ≤ a * (-1) := Int.mul_le_mul_of_nonneg_left (by omega) (by omega)
    omega
  · subst h; rw [Int.mul_zero]; omega
  · have : a * 1 ≤ a * y := Int.mul_le_mul_of_nonneg_left (by omega) (by omega)
    omega
theorem cmp_zero {a y s : Int} (ha : 4 ≤ a) (h1 : -3 ≤ s) (h2 : s ≤ 3) (h0 : s ≠ 0) : a * y - s ≠ 0 := by
  rcases Int.lt_trichotomy y 0 with h | h | h
  · have : a * y ≤ a * (-1) := Int.mul_le_mul_of_nonneg_left (by omega) (by omega)
    omega
  · subst h; rw [Int.mul_zero]; omega
  · have : a * 1 ≤ a * y := Int.mul_le_mul_of_nonneg_left (by omega) (by omega)
    omega
theorem cmp_two {a y s y' s' : Int} : a * y - s < a * y' - s' ↔ 0 < a * (y' - y) - (s' - s) := by
  rw [Int.mul_sub]; omega
theorem val_clr {zs : List Z3} (h : StOk zs) {a c : Int} (ha : 4 ≤ a) (hc : c < 0) : Clr (zs.map (val a c)) := by
  refine ⟨fun x hx => ?_, fun i j x hi hj hx => ?_⟩
  · obtain ⟨z, hz, rfl⟩ := List.mem_map.mp hx
    obtain ⟨h1, h2, h3⟩ := h.one z hz
    unfold val
    split
    · exact cmp_zero ha h2 h3 h1
    · omega
  · rw [List.getElem?_map] at hi hj
    obtain ⟨z, hz, e1⟩ := Option.map_eq_some_iff.mp hi
    obtain ⟨z', hz', e2⟩ := Option.map_eq_some_iff.mp hj
    apply Classical.byContradiction
    intro hne
    obtain ⟨h1, h2⟩ := h.two i j z z' hz hz' hne
    obtain ⟨_, h3⟩ := h.two j i z' z hz' hz (Ne.symm hne)
    unfold val at e1 e2
    by_cases b1 : z.1 = true
    · by_cases b2 : z'.1 = true
      · rw [if_pos b1] at e1
        rw [if_pos b2] at e2
        have := cmp_zero (a := a) (y := z.2.1 - z'.2.1) (s := z.2.2 - z'.2.2) ha (by omega) (by omega) (by omega)
        rw [Int.mul_sub] at this
        omega
      · rw [if_neg b2] at e2; omega
    · rw [if_neg b1] at e1; omega
theorem val_top {zs : List Z3} (h : StOk zs) {a c a' c' : Int} (ha : 4 ≤ a) (hc : c < 0) (ha' : 4 ≤ a') (hc' : c' < 0) : topIx (zs.map (val a c)) = topIx (zs.map (val a' c')) := by
  have pos : ∀ {a c : Int}, 4 ≤ a → c < 0 → ∀ z ∈ zs, (0 < val a c z ↔ z.1 = true ∧ (0 < z.2.1 ∨ (z.2.1 = 0 ∧ z.2.2 < 0))) := fun {a c} ha hc z hz => by
    obtain ⟨_, h2, h3⟩ := h.one z hz
    unfold val
    by_cases b : z.1 = true
    · rw [if_pos b, cmp_pos ha h2 h3]; simp [b]
    · rw [if_neg b]; simp [b]; omega
  refine topIx_congr (val_clr h ha hc) (val_clr h ha' hc') (by simp) (fun i x y hx hy => ?_) (fun i j x y x' y' hx hy hx' hy' p1 p2 => ?_)
  · rw [List.getElem?_map] at hx hy
    obtain ⟨z, hz, rfl⟩ := Option.map_eq_some_iff.mp hx
    rw [hz] at hy
    cases hy
    rw [pos ha hc z (List.mem_of_getElem? hz), pos ha' hc' z (List.mem_of_getElem? hz)]
  · rw [List.getElem?_map] at hx hy hx' hy'
    obtain ⟨z, hz, rfl⟩ := Option.map_eq_some_iff.mp hx
    rw [hz] at hy
    cases hy
    obtain ⟨z', hz', rfl⟩ := Option.map_eq_some_iff.mp hx'
    rw [hz'] at hy'
    cases hy'
    have b := ((pos ha hc z (List.mem_of_getElem? hz)).mp p1).1
    have b' := ((pos ha hc z' (List.mem_of_getElem? hz')).mp p2).1
    unfold val
    rw [if_pos b, if_pos b', if_pos b, if_pos b']
    by_cases e : i = j
    · subst e
      rw [hz] at hz'
      cases hz'
      omega
    · obtain ⟨h1, h2⟩ := h.two i j z z' hz hz' e
      obtain ⟨_, h3⟩ := h.two j i z' z hz' hz (Ne.symm e)
      rw [cmp_two, cmp_two, cmp_pos ha (by omega) (by omega), cmp_pos ha' (by omega) (by omega)]
/-! the three ways to tell it -/
theorem filter_one {i : Nat} {p : Nat → Bool} : ∀ {n : Nat}, i < n → (∀ m, m < n → (p m = true ↔ m = i)) → (List.range n).filter p = [i]
  | 0, h, _ => absurd h (by omega)
  | n + 1, h, hp => by
    rw [List.range_succ, List.filter_append]
    by_cases e : i = n
    · subst e
      have : (List.range i).filter p = [] := List.filter_eq_nil_iff.mpr fun m hm => by
        have hlt := List.mem_range.mp hm
        intro z
        have := (hp m (by omega)).mp z
        omega
      rw [this, List.filter_cons_of_pos ((hp i (by omega)).mpr rfl)]
      rfl
    · rw [filter_one (by omega) fun m hm => hp m (by omega), List.filter_cons_of_neg (fun z => e ((hp n (by omega)).mp z).symm)]
      rfl
theorem top_val {V : List Int} {t : Int} (h : IsTop V t) : t = mx V := by
  obtain ⟨h1, h2⟩ := h
  have a := h2 0 List.mem_cons_self
  have b : mx V ≤ t := by
    by_cases hp : 0 < mx V
    · exact h2 _ (List.mem_cons_of_mem _ (mx_mem hp))
    · omega
  have c : t ≤ mx V := by
    rcases List.mem_cons.mp h1 with rfl | h
    · exact mx_nonneg V
    · exact mx_ge h
  omega
theorem topIx_pos {V : List Int} (h : 0 < mx V) : topIx V = some (V.idxOf (mx V)) := if_pos h
theorem topIx_zero {V : List Int} (h : ¬ 0 < mx V) : topIx V = none := if_neg h
theorem bestsL_eq {V : List Int} (hc : Clr V) {t : Int} (h : IsTop V t) : bestsL V t = [bI (topIx V)] := by
  have e := top_val h
  subst e
  unfold bestsL
  by_cases hp : 0 < mx V
  · have hm := get_idxOf (mx_mem hp)
    rw [if_neg (by omega), topIx_pos hp, filter_one (i := V.idxOf (mx V)) (List.idxOf_lt_length_of_mem (mx_mem hp)) fun m _ => ?_]
    · rfl
    · simp only [decide_eq_true_eq]
      exact ⟨fun z => hc.one _ _ _ z hm hp, fun z => by rw [z]; exact hm⟩
  · have hz : mx V = 0 := by have := mx_nonneg V; omega
    rw [if_pos hz, topIx_zero hp, List.filter_eq_nil_iff.mpr fun m _ z => ?_]
    · rfl
    · simp only [decide_eq_true_eq] at z
      exact hc.nz _ (List.mem_of_getElem? z) hz
/-! ratios of one bottom -/
theorem redP_pos' (a : Int) {d : Int} (hd : 0 < d) : 0 < (redP a d).2 ∧ a * (redP a d).2 = (redP a d).1 * d := by
  unfold redP
  have hg : (0 : Int) < Int.gcd a d := by exact_mod_cast Int.gcd_pos_of_ne_zero_right a (by omega)
  refine ⟨Int.ediv_pos_of_pos_of_dvd hd (by omega) (Int.gcd_dvd_right a d), ?_⟩
  obtain ⟨u, hu⟩ := Int.gcd_dvd_left a d
  obtain ⟨v, hv⟩ := Int.gcd_dvd_right a d
  generalize hG : (Int.gcd a d : Int) = G at *
  show a * (d / G) = a / G * d
  rw [hu, hv, Int.mul_ediv_cancel_left _ (by omega), Int.mul_ediv_cancel_left _ (by omega), Int.mul_assoc, Int.mul_left_comm u G v]
theorem redP_inj {a b d : Int} (hd : 0 < d) (h : redP a d = redP b d) : a = b := by
  obtain ⟨h1, h2⟩ := redP_pos' a hd
  obtain ⟨_, h3⟩ := redP_pos' b hd
  rw [← h, ← h2] at h3
  exact (Int.eq_of_mul_eq_mul_right (by omega) h3).symm
theorem redP_lt {a b d : Int} (hd : 0 < d) : (redP a d).1 * (redP b d).2 < (redP b d).1 * (redP a d).2 ↔ a < b := by
  obtain ⟨h1, h2⟩ := redP_pos' a hd
  obtain ⟨h3, h4⟩ := redP_pos' b hd
  generalize (redP a d).1 = A at *
  generalize (redP a d).2 = B at *
  generalize (redP b d).1 = C at *
  generalize (redP b d).2 = E at *
  have h5 : 0 < B * E := Int.mul_pos h1 h3
  have e1 : A * E * d = a * (B * E) := by rw [Int.mul_right_comm, ← h2, Int.mul_assoc]
  have e2 : C * B * d = b * (B * E) := by rw [Int.mul_right_comm, ← h4, Int.mul_assoc, Int.mul_comm E B]
  constructor
  · intro h
    have := Int.mul_lt_mul_of_pos_right h hd
    rw [e1, e2] at this
    exact Int.lt_of_mul_lt_mul_right this (by omega)
  · intro h
    have := Int.mul_lt_mul_of_pos_right h h5
    rw [← e1, ← e2] at this
    exact Int.lt_of_mul_lt_mul_right this (by omega)
theorem redP_zero {d : Int} (hd : 0 < d) : redP 0 d = (0, 1) := by
  unfold redP
  rw [Int.gcd_zero_left]
  have e : ((d.natAbs : Nat) : Int) = d := by omega
  rw [e, Int.zero_ediv, Int.ediv_self (by omega)]
theorem redP_one {d : Int} (hd : 0 < d) : redP (-d) d = (-1, 1) := by
  have e : (Int.gcd (-d) d : Int) = d := by
    rw [Int.neg_gcd, Int.gcd_self]
    omega
  unfold redP
  rw [e, Int.neg_ediv_of_dvd (Int.dvd_refl d), Int.ediv_self (by omega)]
theorem upT_red {a b d : Int} (hd : 0 < d) : upT (redP a d) (redP b d) = redP (max a b) d := by
  unfold upT
  by_cases h : a < b
  · rw [if_pos ((redP_lt hd).mpr h), show max a b = b by omega]
  · rw [if_neg fun z => h ((redP_lt hd).mp z), show max a b = a by omega]
theorem foldl_upT {d : Int} (hd : 0 < d) : ∀ (L : List Int) (a : Int), (L.map fun v => redP v d).foldl upT (redP a d) = redP (L.foldl max a) d
  | [], a => rfl
  | b :: L, a => by rw [List.map_cons, List.foldl_cons, upT_red hd, foldl_upT hd L, List.foldl_cons]
theorem foldl_max : ∀ (L : List Int) (a : Int), 0 ≤ a → L.foldl max a = max a (mx L)
  | [], a, h => by show a = max a 0; omega
  | b :: L, a, h => by
    rw [List.foldl_cons, foldl_max L _ (by omega)]
    show max (max a b) (mx L) = max a (max b (mx L))
    omega
theorem topT_red {V : List Int} {d : Int} (hd : 0 < d) : topT ((0 :: V).map fun v => redP v d) = redP (mx V) d := by
  unfold topT
  rw [← redP_zero hd, foldl_upT hd, List.foldl_cons, foldl_max _ _ (by omega)]
  have := mx_nonneg V
  congr 1
  omega
theorem zipIdx_filter {α : Type} [DecidableEq α] {t : α} : ∀ (W : List α) (n i : Nat), W[i]? = some t → (∀ j, W[j]? = some t → j = i) → (W.zipIdx n).filter (fun p => decide (p.1 = t)) = [(t, n + i)]
  | [], n, i, h, _ => by simp at h
  | w :: W, n, i, h, hu => by
    rw [List.zipIdx_cons]
    by_cases e : w = t
    · subst e
      have hi : 0 = i := hu 0 rfl
      subst hi
      rw [List.filter_cons_of_pos (by simp)]
      have : (W.zipIdx (n + 1)).filter (fun p => decide (p.1 = w)) = [] := List.filter_eq_nil_iff.mpr fun p hp z => by
        have h1 := List.mem_zipIdx hp
        simp only [decide_eq_true_eq] at z
        have h2 := h1.2.2
        have := hu (p.2 - (n + 1) + 1) (by
          rw [List.getElem?_cons_succ, List.getElem?_eq_getElem (by omega), ← h2, z])
        omega
      rw [this]
      simp
    · rw [List.filter_cons_of_neg (by simpa using e)]
      cases i with
      | zero => simp at h; exact absurd h e
      | succ i =>
        rw [zipIdx_filter W (n + 1) i (by simpa using h) fun j hj => by have := hu (j + 1) (by simpa using hj); omega]
        have : n + 1 + i = n + (i + 1) := by omega
        rw [this]
theorem bestsT_eq {V : List Int} (hc : Clr V) {d : Int} (hd : 0 < d) : bestsT ((0 :: V).map fun v => redP v d) = [bI (topIx V)] := by
  unfold bestsT
  rw [topT_red hd]
  have inj : ∀ {j : Nat}, ((0 :: V).map fun v => redP v d)[j]? = some (redP (mx V) d) → (0 :: V)[j]? = some (mx V) := fun {j} h => by
    rw [List.getElem?_map] at h
    obtain ⟨v, h1, h2⟩ := Option.map_eq_some_iff.mp h
    rw [h1, redP_inj hd h2]
  by_cases hp : 0 < mx V
  · have hm := get_idxOf (mx_mem hp)
    rw [topIx_pos hp, zipIdx_filter _ 0 (V.idxOf (mx V) + 1) (by rw [List.getElem?_map, List.getElem?_cons_succ, hm]; rfl) fun j hj => ?_]
    · show [((0 + (V.idxOf (mx V) + 1) : Nat) : Int) - 1] = [((V.idxOf (mx V) : Nat) : Int)]
      congr 1
      omega
    · have := inj hj
      cases j with
      | zero => simp at this; omega
      | succ j =>
        rw [List.getElem?_cons_succ] at this
        rw [hc.one _ _ _ this hm hp]
  · have hz : mx V = 0 := by have := mx_nonneg V; omega
    rw [topIx_zero hp, zipIdx_filter _ 0 0 (by rw [hz]; rfl) fun j hj => ?_]
    · rfl
    · have := inj hj
      cases j with
      | zero => rfl
      | succ j =>
        rw [List.getElem?_cons_succ] at this
        exact absurd hz (hc.nz _ (List.mem_of_getElem? this))
end
section
/-! ### numbers and prices in both scales -/
def zsF (g : Int) : List Int → List Int → List Int → List Z3
  | n :: ns, p :: ps, s :: ss => (decide (0 < n), n / g - p, s) :: zsF g ns ps ss
  | _, _, _ => []
def upP (g : Int) (p : List Int) : List Int := p.map fun x => 12 * g * x
theorem pos_div {g n : Int} (hg : 0 < g) (hd : g ∣ n) : 0 < n / g ↔ 0 < n := by
  obtain ⟨m, rfl⟩ := hd
  rw [Int.mul_ediv_cancel_left _ (by omega)]
  exact ⟨fun h => Int.mul_pos hg h, fun h => by
    rcases Int.lt_trichotomy m 0 with z | z | z
    · have : g * m ≤ g * 0 := Int.mul_le_mul_of_nonneg_left (by omega) (by omega)
      omega
    · subst z; simp at h
    · exact z⟩
theorem worths_zs {g : Int} (hg : 0 < g) : ∀ (ns ps ss : List Int), (∀ n ∈ ns, g ∣ n) → worthsF ns (addL (upP g ps) ss) = (zsF g ns ps ss).map (val (12 * g) (-1))
  | [], _, _, _ => by unfold worthsF zsF; rfl
  | n :: ns, [], _, _ => by unfold zsF; rfl
  | n :: ns, p :: ps, [], _ => by unfold zsF; rfl
  | n :: ns, p :: ps, s :: ss, h => by
    have ih := worths_zs hg ns ps ss fun m hm => h m (List.mem_cons_of_mem _ hm)
    obtain ⟨m, hm⟩ := h n List.mem_cons_self
    show worthF (n, 12 * g * p + s) :: worthsF ns (addL (upP g ps) ss) = val (12 * g) (-1) (decide (0 < n), n / g - p, s) :: (zsF g ns ps ss).map (val (12 * g) (-1))
    rw [ih]
    congr 1
    unfold worthF val
    by_cases hn : 0 < n
    · rw [if_pos hn, if_pos (by simpa using hn)]
      have e : n / g = m := by rw [hm]; exact Int.mul_ediv_cancel_left _ (by omega)
      show 12 * n - (12 * g * p + s) = 12 * g * (n / g - p) - s
      rw [e, Int.mul_sub, hm, Int.mul_assoc 12 g m]
      omega
    · rw [if_neg hn, if_neg (by simpa using hn)]
theorem hgts_zs {g : Int} (hg : 0 < g) : ∀ (ns ps ss : List Int), (∀ n ∈ ns, g ∣ n) → hgts 8 (ns.map (· / g)) (tryP ps ss) = (zsF g ns ps ss).map (val 8 (-1))
  | [], _, _, _ => by unfold hgts zsF; rfl
  | n :: ns, [], _, _ => by unfold zsF; rfl
  | n :: ns, p :: ps, [], _ => by unfold zsF; rfl
  | n :: ns, p :: ps, s :: ss, h => by
    have ih := hgts_zs hg ns ps ss fun m hm => h m (List.mem_cons_of_mem _ hm)
    show hgt 8 (n / g) (8 * p + s) :: hgts 8 (ns.map (· / g)) (tryP ps ss) = val 8 (-1) (decide (0 < n), n / g - p, s) :: (zsF g ns ps ss).map (val 8 (-1))
    rw [ih]
    congr 1
    unfold hgt val
    have hd := pos_div hg (h n List.mem_cons_self)
    by_cases hn : 0 < n
    · rw [if_pos (hd.mpr hn), if_pos (by simpa using hn)]
      show 8 * (n / g) - (8 * p + s) = 8 * (n / g - p) - s
      omega
    · rw [if_neg fun z => hn (hd.mp z), if_neg (by simpa using hn)]
theorem redP_eq {a b c d : Int} (hb : 0 < b) (hd : 0 < d) (h : a * d = c * b) : redP a b = redP c d := by
  -- a fraction is told in one way
  have key : ∀ {a b u : Int}, 0 < b → 0 < u → redP (a * u) (b * u) = redP a b := fun {a b u} hb hu => by
    unfold redP
    have e : (Int.gcd (a * u) (b * u) : Int) = Int.gcd a b * u := by
      rw [Int.gcd_mul_right, Int.natCast_mul]
      have : (u.natAbs : Int) = u := by omega
      rw [this]
    rw [e, Int.mul_ediv_mul_of_pos_left _ _ hu, Int.mul_ediv_mul_of_pos_left _ _ hu]
  rw [← key hb hd, ← key hd hb, h, Int.mul_comm b d]
theorem worthT_zs {s t g n p st : Int} (hs : 0 < s) (ht : 0 < t) (hg : 0 < g) (hst : s = g * t) (hn : g ∣ n) :
    worthT s (n, redP (8 * p + st) (8 * t)) = redP (val 8 (-(8 * t)) (decide (0 < n), n / g - p, st)) (8 * t) := by
  unfold worthT val
  by_cases h : 0 < n
  · rw [if_pos h, if_pos (by simpa using h)]
    obtain ⟨m, rfl⟩ := hn
    have e : g * m / g = m := Int.mul_ediv_cancel_left _ (by omega)
    rw [e]
    obtain ⟨b1, b2⟩ := redP_pos' (8 * p + st) (d := 8 * t) (by omega)
    have r2 : redS s (g * m) = redP (g * m) s := rfl
    rw [r2]
    obtain ⟨b3, b4⟩ := redP_pos' (g * m) (d := s) hs
    show redP ((redP (g * m) s).1 * (redP (8 * p + st) (8 * t)).2 - (redP (8 * p + st) (8 * t)).1 * (redP (g * m) s).2) ((redP (g * m) s).2 * (redP (8 * p + st) (8 * t)).2) = redP (8 * (m - p) - st) (8 * t)
    generalize (redP (g * m) s).1 = A at *
    generalize (redP (g * m) s).2 = B at *
    generalize (redP (8 * p + st) (8 * t)).1 = C at *
    generalize (redP (8 * p + st) (8 * t)).2 = E at *
    have h3 : 0 < B * E := Int.mul_pos b3 b1
    refine redP_eq h3 (by omega) ?_
    -- A / B = m / t, C / E = (8 p + st) / (8 t)
    have hA : A * t = m * B := by
      rw [hst] at b4
      have : g * (A * t) = g * (m * B) := by rw [← Int.mul_assoc, ← Int.mul_assoc, b4, Int.mul_left_comm, Int.mul_assoc]
      exact Int.eq_of_mul_eq_mul_left (by omega) this
    have x1 : A * E * (8 * t) = 8 * m * (B * E) := by
      have : A * E * (8 * t) = 8 * (A * t) * E := by
        rw [Int.mul_assoc, Int.mul_left_comm E 8 t, Int.mul_comm E t, Int.mul_left_comm A 8, ← Int.mul_assoc A, ← Int.mul_assoc 8]
      rw [this, hA, ← Int.mul_assoc 8, Int.mul_assoc]
    have x2 : C * B * (8 * t) = (8 * p + st) * (B * E) := by
      rw [Int.mul_right_comm, ← b2, Int.mul_assoc, Int.mul_comm E B]
    rw [Int.sub_mul, x1, x2, ← Int.sub_mul]
    congr 1
    omega
  · rw [if_neg h, if_neg (by simpa using h)]
    exact (redP_one (by omega)).symm
theorem worthsT_zs {s t g : Int} (hs : 0 < s) (ht : 0 < t) (hg : 0 < g) (hst : s = g * t) (ns ps ss : List Int) (h : ∀ n ∈ ns, g ∣ n) :
    worthsT s ns ((tryP ps ss).map fun v => redP v (8 * t)) = (0 :: (zsF g ns ps ss).map (val 8 (-(8 * t)))).map fun v => redP v (8 * t) := by
  unfold worthsT
  rw [List.map_cons, redP_zero (by omega)]
  congr 1
  have go : ∀ (ns ps ss : List Int), (∀ n ∈ ns, g ∣ n) → (ns.zip ((tryP ps ss).map fun v => redP v (8 * t))).map (worthT s) = ((zsF g ns ps ss).map (val 8 (-(8 * t)))).map fun v => redP v (8 * t) := by
    intro ns
    induction ns with
    | nil => intro ps ss _; unfold zsF; rfl
    | cons n ns ih =>
      intro ps ss h
      cases ps with
      | nil => unfold zsF; rfl
      | cons p ps =>
        cases ss with
        | nil => unfold zsF; rfl
        | cons st ss =>
          show worthT s (n, redP (8 * p + st) (8 * t)) :: (ns.zip ((tryP ps ss).map fun v => redP v (8 * t))).map (worthT s) = redP (val 8 (-(8 * t)) (decide (0 < n), n / g - p, st)) (8 * t) :: ((zsF g ns ps ss).map (val 8 (-(8 * t)))).map fun v => redP v (8 * t)
          rw [ih ps ss fun m hm => h m (List.mem_cons_of_mem _ hm), worthT_zs hs ht hg hst (h n List.mem_cons_self)]
  exact go ns ps ss h
/-! the steps -/
def stepB (st : List Int) : Bool := (st.all fun x => decide (x ≠ 0 ∧ -3 ≤ x ∧ x ≤ 3)) && (List.range st.length).all fun i => (List.range st.length).all fun j => decide (i = j ∨ (st.getD i 0 ≠ st.getD j 0 ∧ st.getD i 0 - st.getD j 0 ≤ 3))
theorem offs_ok : ∀ k, 1 ≤ k → k ≤ 3 → ∀ st ∈ offsF k, stepB st = true := by
  intro k h1 h2
  have : k = 1 ∨ k = 2 ∨ k = 3 := by omega
  rcases this with rfl | rfl | rfl <;> decide +kernel
theorem steps_eq : ∀ k, 1 ≤ k → k ≤ 3 → ∀ st, st ∈ stepsF k ↔ st ∈ offsF k := by
  intro k h1 h2 st
  have a : (∀ k, 1 ≤ k → k ≤ 3 → ((stepsF k).all fun st => (offsF k).contains st) = true) := by
    intro k h1 h2
    have : k = 1 ∨ k = 2 ∨ k = 3 := by omega
    rcases this with rfl | rfl | rfl <;> decide +kernel
  have b : (∀ k, 1 ≤ k → k ≤ 3 → ((offsF k).all fun st => (stepsF k).contains st) = true) := by
    intro k h1 h2
    have : k = 1 ∨ k = 2 ∨ k = 3 := by omega
    rcases this with rfl | rfl | rfl <;> decide +kernel
  exact ⟨fun h => by simpa using List.all_eq_true.mp (a k h1 h2) st h, fun h => by simpa using List.all_eq_true.mp (b k h1 h2) st h⟩
theorem zsF_get (g : Int) : ∀ (ns ps ss : List Int) (i : Nat) (z : Z3), (zsF g ns ps ss)[i]? = some z → ss[i]? = some z.2.2 ∧ i < ns.length
  | [], _, _, i, z, h => by unfold zsF at h; simp at h
  | n :: ns, [], _, i, z, h => by unfold zsF at h; simp at h
  | n :: ns, p :: ps, [], i, z, h => by unfold zsF at h; simp at h
  | n :: ns, p :: ps, s :: ss, 0, z, h => by unfold zsF at h; simp at h; subst h; simp
  | n :: ns, p :: ps, s :: ss, i + 1, z, h => by
    unfold zsF at h
    have := zsF_get g ns ps ss i z (by simpa using h)
    simpa using this
theorem st_ok {st : List Int} (h : stepB st = true) (g : Int) (ns ps : List Int) : StOk (zsF g ns ps st) := by
  unfold stepB at h
  rw [Bool.and_eq_true, List.all_eq_true, List.all_eq_true] at h
  obtain ⟨h1, h2⟩ := h
  refine ⟨fun z hz => ?_, fun i j z z' hi hj hne => ?_⟩
  · obtain ⟨i, hi⟩ := List.mem_iff_getElem?.mp hz
    have := (zsF_get g ns ps st i z hi).1
    exact of_decide_eq_true (h1 _ (List.mem_of_getElem? this))
  · have a := (zsF_get g ns ps st i z hi).1
    have b := (zsF_get g ns ps st j z' hj).1
    have := h2 i (List.mem_range.mpr (List.getElem?_eq_some_iff.mp a).1)
    rw [List.all_eq_true] at this
    have := of_decide_eq_true (this j (List.mem_range.mpr (List.getElem?_eq_some_iff.mp b).1))
    simp only [List.getD_eq_getElem?_getD, a, b, Option.getD_some] at this
    exact this.resolve_left hne
theorem zsF_len (g : Int) {k : Nat} : ∀ {ns ps ss : List Int}, ns.length = k → ps.length = k → ss.length = k → (zsF g ns ps ss).length = k := by
  induction k with
  | zero => intro ns ps ss h _ _; rw [List.length_eq_zero_iff.mp h]; rfl
  | succ k ih =>
    intro ns ps ss h1 h2 h3
    cases ns with
    | nil => simp at h1
    | cons n ns =>
      cases ps with
      | nil => simp at h2
      | cons p ps =>
        cases ss with
        | nil => simp at h3
        | cons s ss => unfold zsF; rw [List.length_cons, ih (by simpa using h1) (by simpa using h2) (by simpa using h3)]
end
section
/-! ### corners of both -/
def upR (m : Int) (row : PRow) : PRow := row.map fun q => (q.1, m * q.2)
theorem upR_fst (m : Int) (row : PRow) : (upR m row).map (·.1) = row.map (·.1) := by unfold upR; rw [List.map_map]; rfl
theorem prOf_up (m : Int) : ∀ (row : PRow) (j : Nat), prOf (upR m row) j = m * prOf row j
  | [], j => by show (0 : Int) = m * 0; omega
  | q :: row, j => by
    have ih := prOf_up m row j
    unfold prOf upR at ih ⊢
    rw [List.map_cons, List.find?_cons, List.find?_cons]
    cases h : (q.1 == j) with
    | true => simp
    | false => simpa using ih
theorem cornerP_up (m : Int) (k : Nat) (row : PRow) : cornerP k (upR m row) = (cornerP k row).map fun x => m * x := by
  unfold cornerP
  rw [List.map_map]
  exact List.map_congr_left fun j _ => prOf_up m row j
/-- the program's whole rows W tell the law's rows R, divided by g -/
structure Same (g : Int) (R W : List WRow) : Prop where
  pos : 0 < g
  dv : ∀ r ∈ R, ∀ n ∈ r.2, g ∣ n
  to : ∀ r ∈ R, ∃ r' ∈ W, r'.2 = r.2.map (· / g)
  of : ∀ r' ∈ W, ∃ r ∈ R, r'.2 = r.2.map (· / g)
theorem Same.num {g : Int} {R W : List WRow} (h : Same g R W) {r r' : WRow} (hr : r ∈ R) (e : r'.2 = r.2.map (· / g)) (c : Nat) (x : Int) : r'.2[c]? = some x ↔ r.2[c]? = some (g * x) := by
  have hg := h.pos
  rw [e, List.getElem?_map]
  constructor
  · intro hx
    obtain ⟨n, h1, h2⟩ := Option.map_eq_some_iff.mp hx
    obtain ⟨m, hm⟩ := h.dv r hr n (List.mem_of_getElem? h1)
    have : n / g = m := by rw [hm]; exact Int.mul_ediv_cancel_left _ (by omega)
    rw [h1, ← h2, this, hm]
  · intro hx
    rw [hx]
    show some (g * x / g) = some x
    rw [Int.mul_ediv_cancel_left _ (by omega)]
theorem Same.num' {g : Int} {R W : List WRow} (h : Same g R W) {r : WRow} (hr : r ∈ R) {c : Nat} {n : Int} (e : r.2[c]? = some n) : ∃ m, n = g * m := by
  obtain ⟨m, hm⟩ := h.dv r hr n (List.mem_of_getElem? e)
  exact ⟨m, hm⟩
theorem gpos {g x : Int} (hg : 0 < g) : 0 < g * x ↔ 0 < x := by
  constructor
  · intro h
    rcases Int.lt_trichotomy x 0 with z | z | z
    · have : g * x ≤ g * 0 := Int.mul_le_mul_of_nonneg_left (by omega) (by omega)
      omega
    · subst z; simp at h
    · exact z
  · exact fun h => Int.mul_pos hg h
theorem gnn {g x : Int} (hg : 0 < g) : 0 ≤ g * x ↔ 0 ≤ x := by
  constructor
  · intro h
    by_cases z : 0 ≤ x
    · exact z
    · have : g * x ≤ g * (-1) := Int.mul_le_mul_of_nonneg_left (by omega) (by omega)
      omega
  · exact fun h => Int.mul_nonneg (by omega) h
theorem stop_up {g : Int} {R W : List WRow} (h : Same g R W) {row : PRow} (hn : (row.map (·.1)).Nodup) {c : Nat} {x : Int} (s : Stop1 W row c x) : LS (IsPl R) (upR (12 * g) row) c (12 * g * x) ∧ 0 ≤ 12 * g * x := by
  have hg := h.pos
  obtain ⟨h0, s⟩ := s
  refine ⟨?_, Int.mul_nonneg (by omega) h0⟩
  rcases s with (rfl | ⟨r', hr', e1, e2⟩) | ⟨q, hq, d, ⟨r', hr', hne, u, v, e1, e2, e3, e4, e5⟩, hx⟩
  · exact .inl (by omega)
  · obtain ⟨r, hr, e⟩ := h.of r' hr'
    have a1 := (h.num hr e c x).mp e1
    refine .inr ⟨.at_ c (g * x), ⟨r, hr, a1, (gpos hg).mpr e2⟩, .inl ⟨g * x, rfl, by rw [Int.mul_assoc]⟩⟩
  · obtain ⟨r, hr, e⟩ := h.of r' hr'
    have a1 := (h.num hr e c u).mp e1
    have a2 := (h.num hr e q.1 v).mp e2
    have hm : q.1 ∈ (upR (12 * g) row).map (·.1) := by rw [upR_fst]; exact List.mem_map.mpr ⟨q, hq, rfl⟩
    have hp : prOf (upR (12 * g) row) q.1 = 12 * g * q.2 := by rw [prOf_up, prOf_mem hn hq]
    rcases Nat.lt_trichotomy c q.1 with hlt | hlt | hlt
    · refine .inr ⟨.as_ c q.1 (g * u - g * v), ⟨r, hr, hlt, g * u, g * v, a1, a2, (gpos hg).mpr e3, (gpos hg).mpr e4, rfl⟩, .inr (.inl ⟨q.1, _, rfl, hm, ?_⟩)⟩
      rw [hp, hx, e5, ← Int.mul_sub, Int.mul_add, ← Int.mul_assoc 12 g]
    · exact absurd hlt hne
    · refine .inr ⟨.as_ q.1 c (g * v - g * u), ⟨r, hr, hlt, g * v, g * u, a2, a1, (gpos hg).mpr e4, (gpos hg).mpr e3, rfl⟩, .inr (.inr ⟨q.1, _, rfl, hm, ?_⟩)⟩
      rw [hp, hx, e5, ← Int.mul_sub, Int.mul_add, ← Int.mul_assoc 12 g, Int.mul_sub, Int.mul_sub]
      omega
theorem stop_down {g : Int} {R W : List WRow} (h : Same g R W) {row : PRow} (hn : (row.map (·.1)).Nodup) {c : Nat} {y : Int} (s : LS (IsPl R) (upR (12 * g) row) c y) (hy : 0 ≤ y) : ∃ x, y = 12 * g * x ∧ Stop1 W row c x := by
  have hg := h.pos
  have at_ : ∀ {j : Nat}, j ∈ (upR (12 * g) row).map (·.1) → ∃ q ∈ row, q.1 = j ∧ prOf (upR (12 * g) row) j = 12 * g * q.2 := fun {j} hj => by
    rw [upR_fst] at hj
    obtain ⟨q, hq, rfl⟩ := List.mem_map.mp hj
    exact ⟨q, hq, rfl, by rw [prOf_up, prOf_mem hn hq]⟩
  have nn : ∀ {x : Int}, y = 12 * g * x → 0 ≤ x := fun {x} e => (gnn (g := 12 * g) (by omega)).mp (e ▸ hy)
  rcases s with rfl | ⟨p, ⟨r, hr, hp⟩, ⟨n, rfl, e⟩ | ⟨j, d, rfl, hj, e⟩ | ⟨i, d, rfl, hi, e⟩⟩
  · exact ⟨0, by omega, by omega, .inl (.inl rfl)⟩
  · obtain ⟨h1, h2⟩ := hp
    obtain ⟨m, rfl⟩ := h.num' hr h1
    obtain ⟨r', hr', e'⟩ := h.to r hr
    have e2 : y = 12 * g * m := by rw [e, Int.mul_assoc]
    exact ⟨m, e2, nn e2, .inl (.inr ⟨r', hr', (h.num hr e' c m).mpr h1, (gpos hg).mp h2⟩)⟩
  · obtain ⟨hlt, a, b, h1, h2, h3, h4, h5⟩ := hp
    obtain ⟨u, rfl⟩ := h.num' hr h1
    obtain ⟨v, rfl⟩ := h.num' hr h2
    obtain ⟨r', hr', e'⟩ := h.to r hr
    obtain ⟨q, hq, rfl, hpq⟩ := at_ hj
    have e2 : y = 12 * g * (q.2 + (u - v)) := by rw [e, hpq, h5, ← Int.mul_sub, Int.mul_add, ← Int.mul_assoc 12 g]
    exact ⟨_, e2, nn e2, .inr ⟨q, hq, u - v, ⟨r', hr', by omega, u, v, (h.num hr e' c u).mpr h1, (h.num hr e' q.1 v).mpr h2, (gpos hg).mp h3, (gpos hg).mp h4, rfl⟩, rfl⟩⟩
  · obtain ⟨hlt, a, b, h1, h2, h3, h4, h5⟩ := hp
    obtain ⟨u, rfl⟩ := h.num' hr h1
    obtain ⟨v, rfl⟩ := h.num' hr h2
    obtain ⟨r', hr', e'⟩ := h.to r hr
    obtain ⟨q, hq, rfl, hpq⟩ := at_ hi
    have e2 : y = 12 * g * (q.2 + (v - u)) := by
      rw [e, hpq, h5, ← Int.mul_sub, Int.mul_add, ← Int.mul_assoc 12 g, Int.mul_sub, Int.mul_sub]
      omega
    exact ⟨_, e2, nn e2, .inr ⟨q, hq, v - u, ⟨r', hr', by omega, v, u, (h.num hr e' c v).mpr h2, (h.num hr e' q.1 u).mpr h1, (gpos hg).mp h4, (gpos hg).mp h3, rfl⟩, rfl⟩⟩
theorem placed_up {g : Int} {R W : List WRow} (h : Same g R W) {o : List Nat} {row : PRow} (p : Placed W o row) (hn : o.Nodup) : LPlaced (IsPl R) o (upR (12 * g) row) := by
  induction p with
  | nil => exact .nil
  | @snoc o row c x p s ih =>
    have hn' := (List.nodup_append.mp hn).1
    have e : upR (12 * g) (row ++ [(c, x)]) = upR (12 * g) row ++ [(c, 12 * g * x)] := by unfold upR; rw [List.map_append]; rfl
    rw [e]
    obtain ⟨a, b⟩ := stop_up h (by rw [p.fst]; exact hn') s
    exact .snoc (ih hn') a b
theorem placed_down {g : Int} {R W : List WRow} (h : Same g R W) {o : List Nat} {row' : PRow} (p : LPlaced (IsPl R) o row') (hn : o.Nodup) : ∃ row, row' = upR (12 * g) row ∧ Placed W o row := by
  induction p with
  | nil => exact ⟨[], rfl, .nil⟩
  | @snoc o row' c y p s hy ih =>
    have hn' := (List.nodup_append.mp hn).1
    obtain ⟨row, rfl, q⟩ := ih hn'
    obtain ⟨x, rfl, z⟩ := stop_down h (by rw [q.fst]; exact hn') s hy
    exact ⟨row ++ [(c, x)], by unfold upR; rw [List.map_append]; rfl, .snoc q z⟩
theorem ord_nodup {k : Nat} (h1 : 1 ≤ k) (h3 : k ≤ 3) {o : List Nat} (ho : o ∈ natOrders k) : o.Nodup := (order_perm k h1 h3 o ho).nodup_iff.mpr List.nodup_range
theorem corner_iff {g : Int} {R W : List WRow} (h : Same g R W) {k : Nat} (h1 : 1 ≤ k) (h3 : k ≤ 3) (p' : List Int) : LCorner (IsPl R) k p' ↔ ∃ p, IsCorner W k p ∧ p' = upP g p := by
  constructor
  · rintro ⟨o, ho, row', q, rfl⟩
    obtain ⟨row, rfl, z⟩ := placed_down h q (ord_nodup h1 h3 ho)
    exact ⟨cornerP k row, ⟨o, ho, row, z, rfl⟩, cornerP_up _ k row⟩
  · rintro ⟨p, ⟨o, ho, row, z, rfl⟩, rfl⟩
    exact ⟨o, ho, _, placed_up h z (ord_nodup h1 h3 ho), (cornerP_up _ k row).symm⟩
theorem placed_nn {W : List WRow} {o : List Nat} {row : PRow} (p : Placed W o row) : ∀ q ∈ row, 0 ≤ q.2 := by
  induction p with
  | nil => intro q hq; cases hq
  | @snoc o row c x p s ih =>
    intro q hq
    rcases List.mem_append.mp hq with hq | hq
    · exact ih q hq
    · simp at hq; subst hq; exact s.1
theorem corner_nn {W : List WRow} {k : Nat} {p : List Int} (h : IsCorner W k p) : ∀ x ∈ p, 0 ≤ x := by
  obtain ⟨o, _, row, z, rfl⟩ := h
  intro x hx
  obtain ⟨j, _, rfl⟩ := List.mem_map.mp hx
  unfold prOf
  cases hf : row.find? fun q => q.1 == j with
  | none => simp
  | some q => exact placed_nn z q (List.mem_of_find?_eq_some hf)
theorem step_pos {g : Int} (hg : 0 < g) : ∀ {p st : List Int}, (∀ x ∈ p, 0 ≤ x) → (∀ x ∈ st, x ≠ 0 ∧ -3 ≤ x ∧ x ≤ 3) → ((∀ x ∈ addL (upP g p) st, 0 < x) ↔ ∀ x ∈ tryP p st, 0 < x)
  | [], _, _, _ => by unfold addL upP tryP; simp
  | p :: ps, [], _, _ => by unfold addL upP tryP; simp
  | p :: ps, s :: ss, h1, h2 => by
    have ih := step_pos hg (p := ps) (st := ss) (fun x hx => h1 x (List.mem_cons_of_mem _ hx)) fun x hx => h2 x (List.mem_cons_of_mem _ hx)
    have a : addL (upP g (p :: ps)) (s :: ss) = (12 * g * p + s) :: addL (upP g ps) ss := rfl
    have b : tryP (p :: ps) (s :: ss) = (8 * p + s) :: tryP ps ss := rfl
    have hp := h1 p List.mem_cons_self
    obtain ⟨s0, s1, s2⟩ := h2 s List.mem_cons_self
    have c : 0 < 12 * g * p + s ↔ 0 < 8 * p + s := by
      by_cases hz : p = 0
      · subst hz; rw [Int.mul_zero]; omega
      · have : 12 * g * 1 ≤ 12 * g * p := Int.mul_le_mul_of_nonneg_left (by omega) (by omega)
        omega
    rw [a, b, List.forall_mem_cons, List.forall_mem_cons, ih, c]
theorem place_iff {g : Int} {R W : List WRow} (h : Same g R W) {k : Nat} (h1 : 1 ≤ k) (h3 : k ≤ 3) (q : List Int) :
    IsPlace (IsPl R) k q ↔ ∃ p st, IsCorner W k p ∧ st ∈ offsF k ∧ (∀ x ∈ tryP p st, 0 < x) ∧ q = addL (upP g p) st := by
  have sb : ∀ {st : List Int}, st ∈ offsF k → ∀ x ∈ st, x ≠ 0 ∧ -3 ≤ x ∧ x ≤ 3 := fun {st} hs x hx => by
    have := offs_ok k h1 h3 st hs
    unfold stepB at this
    rw [Bool.and_eq_true, List.all_eq_true] at this
    exact of_decide_eq_true (this.1 x hx)
  constructor
  · rintro ⟨p', hp, st, hs, rfl, hpos⟩
    obtain ⟨p, hc, rfl⟩ := (corner_iff h h1 h3 p').mp hp
    rw [steps_eq k h1 h3] at hs
    exact ⟨p, st, hc, hs, (step_pos h.pos (corner_nn hc) (sb hs)).mp hpos, rfl⟩
  · rintro ⟨p, st, hc, hs, hpos, rfl⟩
    exact ⟨upP g p, (corner_iff h h1 h3 _).mpr ⟨p, hc, rfl⟩, st, (steps_eq k h1 h3 st).mpr hs, rfl, (step_pos h.pos (corner_nn hc) (sb hs)).mpr hpos⟩
end
section
/-! ### both laws meet -/
section
variable {κ : Type} [DecidableEq κ]
theorem GM.sum' {pos : κ → Bool} {R out : List (Int × κ)} (h : GM pos R out) {φ : κ → Bool} (hp : ∀ r ∈ R, φ r.2 = true → pos r.2 = true) : sumP φ out = sumP φ R :=
  sumP_eq φ _ R out (Nat.le_refl _) fun x hx => by
    by_cases hm : ∃ r ∈ R, r.2 = x
    · obtain ⟨r, hr, rfl⟩ := hm
      exact h.tot (hp r hr hx)
    · rw [totG_none (R := R) fun r hr e => hm ⟨r, hr, e⟩, totG_none fun r hr e => ?_]
      obtain ⟨q, hq, e2⟩ := h.key hr
      exact hm ⟨q, hq, e2.trans e⟩
end
structure Side (k : Nat) (s : Int) (rs : List WRow) (out : List Row) : Prop where
  pl : Plain rs
  ok : ∀ r ∈ rs, LOk k 100 r
  mg : IsMerge (rs.map (redW s)) out
theorem redS_redP (s n : Int) : redS s n = redP n s := rfl
theorem redS_inj {s : Int} (hs : 0 < s) : ∀ {l m : List Int}, l.map (redS s) = m.map (redS s) → l = m
  | [], [], _ => rfl
  | [], _ :: _, h => by cases h
  | _ :: _, [], h => by cases h
  | a :: l, b :: m, h => by
    rw [List.map_cons, List.map_cons, List.cons.injEq] at h
    rw [redP_inj hs h.1, redS_inj hs h.2]
theorem redS_pos {s n : Int} (hs : 0 < s) (hn : 0 < n) : 0 < (redS s n).1 := by
  obtain ⟨h1, h2⟩ := redP_pos' n hs
  rw [redS_redP]
  have : 0 < n * (redP n s).2 := Int.mul_pos hn h1
  rw [h2, Int.mul_comm] at this
  exact (gpos hs).mp this
theorem anyPos_red {s : Int} (hs : 0 < s) {ns : List Int} (h : posL ns = true) : anyPos (ns.map (redS s)) = true := by
  unfold posL at h
  unfold anyPos
  rw [List.any_eq_true] at h ⊢
  obtain ⟨n, hn, hp⟩ := h
  exact ⟨redS s n, List.mem_map.mpr ⟨n, hn, rfl⟩, decide_eq_true (redS_pos hs (of_decide_eq_true hp))⟩
theorem tot_red {s : Int} (hs : 0 < s) (rs : List WRow) (ns : List Int) : tot (rs.map (redW s)) (ns.map (redS s)) = totG rs ns := by
  have e : tot (rs.map (redW s)) (ns.map (redS s)) = sumP (fun y => decide (y = ns.map (redS s))) (rs.map fun r => (r.1, r.2.map (redS s))) := rfl
  rw [e, sumP_map, totG_sum]
  refine sumP_congr fun r _ => ?_
  rw [Bool.eq_iff_iff]
  simp only [decide_eq_true_eq]
  exact ⟨fun h => redS_inj hs h, fun h => by rw [h]⟩
theorem Side.keys {k : Nat} {s : Int} {rs : List WRow} {out : List Row} (h : Side k s rs out) (hs : 0 < s) : (∀ r' ∈ out, ∃ r ∈ rs, r'.2 = r.2.map (redS s)) ∧ ∀ r ∈ rs, ∃ r' ∈ out, r'.2 = r.2.map (redS s) := by
  constructor
  · intro r' hr'
    obtain ⟨q, hq, e⟩ := merge_key h.mg hr'
    obtain ⟨r, hr, rfl⟩ := List.mem_map.mp hq
    exact ⟨r, hr, e.symm⟩
  · intro r hr
    obtain ⟨h1, h2⟩ := h.pl.nz r hr
    refine ⟨(r.1, r.2.map (redS s)), (h.mg.mem _).mpr ⟨?_, h1, anyPos_red hs h2⟩, rfl⟩
    show r.1 = tot (rs.map (redW s)) (r.2.map (redS s))
    rw [tot_red hs, totG_nodup h.pl.nd r hr]
theorem whole_red {s t g n : Int} (hs : 0 < s) (ht : 0 < t) (hg : s = g * t) (hd : (redS s n).2 ∣ t) : (redS s n).1 * t / (redS s n).2 = n / g ∧ g ∣ n := by
  obtain ⟨h1, h2⟩ := redP_pos' n hs
  rw [redS_redP] at hd ⊢
  generalize (redP n s).1 = a at *
  generalize (redP n s).2 = b at *
  obtain ⟨c, hc⟩ := hd
  have hg0 : 0 < g := by
    have := hs
    rw [hg, Int.mul_comm] at this
    exact (gpos ht).mp this
  have e : n = g * (a * c) := by
    rw [hg, hc] at h2
    have : n * b = g * (a * c) * b := by rw [h2, Int.mul_left_comm, Int.mul_comm b c, ← Int.mul_assoc a, ← Int.mul_assoc g]
    exact Int.eq_of_mul_eq_mul_right (by omega) this
  refine ⟨?_, ⟨_, e⟩⟩
  have e2 : n / g = a * c := by rw [e, Int.mul_ediv_cancel_left _ (by omega)]
  rw [e2, hc, Int.mul_left_comm, Int.mul_ediv_cancel_left _ (by omega)]
section
variable {k : Nat} {s t g : Int} {rsA rsB R : List WRow} {outA outB m1 gap : List Row}
def wN (t : Int) (ps : PKey) : List Int := ps.map fun p => p.1 * t / p.2
theorem same_of (hs : 0 < s) (A : Side k s rsA outA) (B : Side k s rsB outB) (T : TScale s (outA ++ outB) t) (hg : s = g * t) (hR : ∀ r, r ∈ R ↔ r ∈ rsA ∨ r ∈ rsB) : Same g R ((outA ++ outB).map (wholeR t)) ∧ ∀ r ∈ R, wN t (r.2.map (redS s)) = r.2.map (· / g) := by
  have hg0 : 0 < g := by
    have := hs
    rw [hg, Int.mul_comm] at this
    exact (gpos T.pos).mp this
  have to : ∀ r ∈ R, ∃ r' ∈ outA ++ outB, r'.2 = r.2.map (redS s) := fun r hr => by
    rcases (hR r).mp hr with h | h
    · obtain ⟨r', h1, h2⟩ := (A.keys hs).2 r h
      exact ⟨r', List.mem_append_left _ h1, h2⟩
    · obtain ⟨r', h1, h2⟩ := (B.keys hs).2 r h
      exact ⟨r', List.mem_append_right _ h1, h2⟩
  have of : ∀ r' ∈ outA ++ outB, ∃ r ∈ R, r'.2 = r.2.map (redS s) := fun r' hr' => by
    rcases List.mem_append.mp hr' with h | h
    · obtain ⟨r, h1, h2⟩ := (A.keys hs).1 r' h
      exact ⟨r, (hR r).mpr (.inl h1), h2⟩
    · obtain ⟨r, h1, h2⟩ := (B.keys hs).1 r' h
      exact ⟨r, (hR r).mpr (.inr h1), h2⟩
  have num : ∀ r ∈ R, ∀ n ∈ r.2, (redS s n).1 * t / (redS s n).2 = n / g ∧ g ∣ n := fun r hr n hn => by
    obtain ⟨r', h1, h2⟩ := to r hr
    exact whole_red hs T.pos hg (T.all r' h1 _ (by rw [h2]; exact List.mem_map.mpr ⟨n, hn, rfl⟩))
  have wh : ∀ r ∈ R, wN t (r.2.map (redS s)) = r.2.map (· / g) := fun r hr => by
    unfold wN
    rw [List.map_map]
    exact List.map_congr_left fun n hn => (num r hr n hn).1
  refine ⟨⟨hg0, fun r hr n hn => (num r hr n hn).2, fun r hr => ?_, fun w hw => ?_⟩, wh⟩
  · obtain ⟨r', h1, h2⟩ := to r hr
    refine ⟨wholeR t r', List.mem_map.mpr ⟨r', h1, rfl⟩, ?_⟩
    show wN t r'.2 = _
    rw [h2, wh r hr]
  · obtain ⟨r', h1, rfl⟩ := List.mem_map.mp hw
    obtain ⟨r, hr, h2⟩ := of r' h1
    refine ⟨r, hr, ?_⟩
    show wN t r'.2 = _
    rw [h2, wh r hr]
/-- the law's best kind at its prices q -/
def bestL (q : List Int) (ns : List Int) : Int := bI (topIx (worthsF ns q))
/-- the program's best kind beside a corner p -/
def bestG (g : Int) (p st : List Int) (ns : List Int) : Int := bI (bestP 8 (tryP p st) (ns.map (· / g)))
theorem bI_ge (o : Option Nat) : -1 ≤ bI o := by
  cases o with
  | none => exact Int.le_refl _
  | some i => show (-1 : Int) ≤ (i : Int); omega
theorem best_all (hs : 0 < s) (ht : 0 < t) (hg0 : 0 < g) (hg : s = g * t) {p st ns : List Int} (hst : stepB st = true) (h1 : ns.length = k) (h2 : p.length = k) (h3 : st.length = k) (hd : ∀ n ∈ ns, g ∣ n) :
    bestL (addL (upP g p) st) ns = bestG g p st ns ∧ -1 ≤ bestG g p st ns ∧ bestG g p st ns < k ∧ (∀ T, IsTop (worthsF ns (addL (upP g p) st)) T → bestsL (worthsF ns (addL (upP g p) st)) T = [bestG g p st ns]) ∧
      bestsT (worthsT s ns ((tryP p st).map fun v => redP v (8 * t))) = [bestG g p st ns] := by
  have ok := st_ok hst g ns p
  have e8 : bestG g p st ns = bI (topIx ((zsF g ns p st).map (val 8 (-1)))) := by
    unfold bestG bestP
    rw [hgts_zs hg0 ns p st hd]
  have e12 : topIx ((zsF g ns p st).map (val (12 * g) (-1))) = topIx ((zsF g ns p st).map (val 8 (-1))) := val_top ok (by omega) (by omega) (by omega) (by omega)
  have eT : topIx ((zsF g ns p st).map (val 8 (-(8 * t)))) = topIx ((zsF g ns p st).map (val 8 (-1))) := val_top ok (by omega) (by omega) (by omega) (by omega)
  refine ⟨?_, ?_, ?_, fun T hT => ?_, ?_⟩
  · unfold bestL
    rw [worths_zs hg0 ns p st hd, e12, e8]
  · rw [e8]; exact bI_ge _
  · rw [e8]
    cases h : topIx ((zsF g ns p st).map (val 8 (-1))) with
    | none => show (-1 : Int) < k; omega
    | some i =>
      have := topIx_lt h
      rw [List.length_map, zsF_len g h1 h2 h3] at this
      show (i : Int) < k
      omega
  · rw [worths_zs hg0 ns p st hd] at hT ⊢
    rw [bestsL_eq (val_clr ok (by omega) (by omega)) hT, e12, e8]
  · rw [worthsT_zs hs ht hg0 hg ns p st hd, bestsT_eq (val_clr ok (by omega) (by omega)) (by omega), eT, e8]
theorem bestG_pos {p st ns : List Int} {j : Nat} (hg0 : 0 < g) (hd : ∀ n ∈ ns, g ∣ n) (h : bestG g p st ns = (j : Int)) : posL ns = true := by
  unfold bestG at h
  have h := bI_eq.mp h
  unfold bestP at h
  rw [hgts_zs hg0 ns p st hd] at h
  apply Classical.byContradiction
  intro hno
  have hz : ∀ n ∈ ns, ¬ 0 < n := fun n hn hp => hno (by unfold posL; rw [List.any_eq_true]; exact ⟨n, hn, decide_eq_true hp⟩)
  have go : ∀ (ns p st : List Int), (∀ n ∈ ns, ¬ 0 < n) → ∀ z ∈ zsF g ns p st, z.1 = false := by
    intro ns
    induction ns with
    | nil => intro p st _ z hz; unfold zsF at hz; cases hz
    | cons n ns ih =>
      intro p st hn z hz
      cases p with
      | nil => unfold zsF at hz; cases hz
      | cons a p =>
        cases st with
        | nil => unfold zsF at hz; cases hz
        | cons b st =>
          unfold zsF at hz
          rcases List.mem_cons.mp hz with rfl | hz
          · exact decide_eq_false (hn n List.mem_cons_self)
          · exact ih p st (fun m hm => hn m (List.mem_cons_of_mem _ hm)) z hz
  have : topIx ((zsF g ns p st).map (val 8 (-1))) = none := topIx_none.mpr fun x hx => by
    obtain ⟨z, h1, rfl⟩ := List.mem_map.mp hx
    have := go ns p st hz z h1
    unfold val
    rw [if_neg (by rw [this]; decide)]
    omega
  rw [this] at h
  cases h
/-- the units of the gap -/
theorem gapU_eq (hk1 : 1 ≤ k) (hk3 : k ≤ 3) (hs : 0 < s) (A : Side k s rsA outA) (B : Side k s rsB outB) (T : TScale s (outA ++ outB) t) (hg : s = g * t) (hR : ∀ r, r ∈ R ↔ r ∈ rsA ∨ r ∈ rsB)
    (hm : IsMerge (outB.map fun r => (-r.1, r.2)) m1) (hgap : IsMerge (outA ++ m1) gap) (p st : List Int) :
    gapU k t gap p st = (rngI 0 k).map fun j => unitsG (bestG g p st) rsA j - unitsG (bestG g p st) rsB j := by
  obtain ⟨S, wh⟩ := same_of hs A B T hg hR
  have hg0 := S.pos
  unfold gapU
  rw [unitsF_sum]
  refine List.map_congr_left fun j hj => ?_
  obtain ⟨n, hn, rfl⟩ := rngI_mem.mp hj
  have e0 : sumP (fun ns => decide (bI (bestP 8 (tryP p st) ns) = (n : Int))) (gap.map (wholeR t)) = sumP (fun key => decide (bI (bestP 8 (tryP p st) (wN t key)) = (n : Int))) gap := sumP_map _ (wN t) gap
  rw [e0]
  have fA : ∀ r ∈ rsA, (decide (bI (bestP 8 (tryP p st) (wN t (r.2.map (redS s)))) = (n : Int))) = decide (bestG g p st r.2 = (n : Int)) := fun r hr => by
    rw [wh r ((hR r).mpr (.inl hr))]; rfl
  have fB : ∀ r ∈ rsB, (decide (bI (bestP 8 (tryP p st) (wN t (r.2.map (redS s)))) = (n : Int))) = decide (bestG g p st r.2 = (n : Int)) := fun r hr => by
    rw [wh r ((hR r).mpr (.inr hr))]; rfl
  have pos : ∀ r ∈ R, decide (bI (bestP 8 (tryP p st) (wN t (r.2.map (redS s)))) = (n : Int)) = true → anyPos (r.2.map (redS s)) = true := fun r hr h => by
    rw [wh r hr] at h
    exact anyPos_red hs (bestG_pos hg0 (S.dv r hr) (of_decide_eq_true h))
  have oA : sumP (fun key => decide (bI (bestP 8 (tryP p st) (wN t key)) = (n : Int))) outA = unitsG (bestG g p st) rsA (n : Int) := by
    rw [A.mg.gm.sum' fun r hr h => ?_]
    · have : sumP (fun key => decide (bI (bestP 8 (tryP p st) (wN t key)) = (n : Int))) (rsA.map (redW s)) = sumP (fun ns => decide (bI (bestP 8 (tryP p st) (wN t (ns.map (redS s)))) = (n : Int))) rsA := sumP_map _ (fun ns : List Int => ns.map (redS s)) rsA
      rw [this, unitsG_sum]
      exact sumP_congr fA
    · obtain ⟨r0, h0, rfl⟩ := List.mem_map.mp hr
      exact pos r0 ((hR r0).mpr (.inl h0)) h
  have oB : sumP (fun key => decide (bI (bestP 8 (tryP p st) (wN t key)) = (n : Int))) outB = unitsG (bestG g p st) rsB (n : Int) := by
    rw [B.mg.gm.sum' fun r hr h => ?_]
    · have : sumP (fun key => decide (bI (bestP 8 (tryP p st) (wN t key)) = (n : Int))) (rsB.map (redW s)) = sumP (fun ns => decide (bI (bestP 8 (tryP p st) (wN t (ns.map (redS s)))) = (n : Int))) rsB := sumP_map _ (fun ns : List Int => ns.map (redS s)) rsB
      rw [this, unitsG_sum]
      exact sumP_congr fB
    · obtain ⟨r0, h0, rfl⟩ := List.mem_map.mp hr
      exact pos r0 ((hR r0).mpr (.inr h0)) h
  have kB : ∀ r' ∈ outB, decide (bI (bestP 8 (tryP p st) (wN t r'.2)) = (n : Int)) = true → anyPos r'.2 = true := fun r' hr' h => by
    obtain ⟨r, hr, e⟩ := (B.keys hs).1 r' hr'
    rw [e] at h ⊢
    exact pos r ((hR r).mpr (.inr hr)) h
  have oM : sumP (fun key => decide (bI (bestP 8 (tryP p st) (wN t key)) = (n : Int))) m1 = -unitsG (bestG g p st) rsB (n : Int) := by
    rw [hm.gm.sum' fun r hr h => ?_, sumP_neg, oB]
    obtain ⟨r0, h0, rfl⟩ := List.mem_map.mp hr
    exact kB r0 h0 h
  rw [hgap.gm.sum' fun r hr h => ?_, sumP_append, oA, oM]
  · omega
  · rcases List.mem_append.mp hr with h1 | h1
    · obtain ⟨r0, h0, e⟩ := (A.keys hs).1 r h1
      rw [e] at h ⊢
      exact pos r0 ((hR r0).mpr (.inl h0)) h
    · obtain ⟨q, hq, e⟩ := merge_key hm h1
      obtain ⟨r0, h0, rfl⟩ := List.mem_map.mp hq
      have e' : r0.2 = r.2 := e
      rw [← e'] at h ⊢
      exact kB r0 h0 h
end
end
section
/-! ### is_less -/
/-- told prices: ratios in lowest terms, above 0 -/
structure TOk (p : Int × Int) : Prop where
  low : Low p
  lt : p.2 ≤ 199
  pos : 0 < p.1
def fsIsLess (CL : Addr) : FS := fun ds O post => ∃ (k : Nat) (s : Int) (rs1 rs2 : List WRow) (ps : List (Int × Int)) (j : Nat) (best : List Int → Int), ds = [lessD CL (ps.map pD) (j : Int), lawD k s rs1, lawD k s rs2] ∧ 1 ≤ k ∧ k ≤ 3 ∧ 0 < s ∧ s ≤ 10 ∧ rs1.length ≤ 50 ∧ rs2.length ≤ 50 ∧ (∀ r ∈ rs1, LOk k 100 r) ∧ (∀ r ∈ rs2, LOk k 100 r) ∧ ps.length = k ∧ (∀ p ∈ ps, TOk p) ∧ j < k ∧
  (∀ r ∈ rs1, -1 ≤ best r.2 ∧ best r.2 < k ∧ bestsT (worthsT s r.2 ps) = [best r.2]) ∧ (∀ r ∈ rs2, -1 ≤ best r.2 ∧ best r.2 < k ∧ bestsT (worthsT s r.2 ps) = [best r.2]) ∧ O = [] ∧ post (.bl (decide (unitsG best rs1 (j : Int) < unitsG best rs2 (j : Int)))) []
abbrev sIsLess : Stmt := topS 69
theorem scIsLess : FnScope ["_law_told", "_law_one", "_law_other", "_law_kinds", "_law_first", "_law_second", "_law_price"] ["_law_told", "_law_one", "_law_other"] (defScope sIsLess) := ⟨rfl, rfl, rfl, by decide +kernel, rfl, by decide +kernel, by decide +kernel⟩
section
variable {P : Program} {w : World} {K : PySem.W.Frag} {mg : Str → Option Value} {base : Heap} {f : Addr} {fd : FuncData} {CL : Addr}
structure LessF (K : PySem.W.Frag) (mg : Str → Option Value) (CL : Addr) : Prop where
  glo : mg "Less" = some (.ref CL)
  isc : C8.InsC K CL
  n1 : NoAttr K CL "prices"
  n2 : NoAttr K CL "kind"
theorem ok_is_less (F : FnP K "_law_is_less" sIsLess f fd) (B : Bn mg) (LF : LessF K mg CL) (G1 : Std P w K mg base 3 "_law_are_ratios" ["_law_value", "_law_many"] fsAreRat) (G2 : Std P w K mg base 4 "_law_units_told" ["_law_bids", "_law_prices"] fsTold2) : FnOk P w K mg base CX0 5 f fd ["_law_told", "_law_one", "_law_other"] (spD P w (fsIsLess CL)) := by
  refine fokX F scIsLess (fun ds O post h => ?_) (fun cdv A outer s H E ds O post hr h => ?_)
  · obtain ⟨a, b, c, d, e, g, i, rfl, _⟩ := h; rfl
  · obtain ⟨k, sc, rs1, rs2, ps, j, best, rfl, hk1, hk3, hs0, hs1, hl1, hl2, ho1, ho2, hpl, hps, hj, hb1, hb2, rfl, kk⟩ := h
    have hN := scIsLess.nd
    have hu1 := room1 hr
    have lp : kLk (κ := Str) ["prices", "kind"] [D.tup (ps.map pD), .int (j : Int)] ("prices" : Str) = some (.tup (ps.map pD)) := by kernel_rfl
    have lk : kLk (κ := Str) ["prices", "kind"] [D.tup (ps.map pD), .int (j : Int)] ("kind" : Str) = some (.int (j : Int)) := by kernel_rfl
    walk_at "e"
    refine ds_st hN rfl (.inl rfl) rfl (.inr rfl) ?_
    refine de_ixK hu1 (fun _ _ => rfl) ?_
    repeat walk_at "e"
    refine ⟨lawKs, _, .inr "kinds", _, .inl rfl, rfl, lawL1, ?_⟩
    walk_at "e"
    refine ds_if ?_
    refine dt_w (dw_or ?_)
    refine dt_not ?_
    walk_at "val"
    refine de_callB (C8.call_isC LF.isc) rfl B.isinstance boot_isinstance (by decide) (by decide) rfl rfl ?_
    repeat walk_at "e"
    refine de_cls rfl LF.glo (by decide) ?_
    walk_at "e"
    refine rc_isC ⟨_, rfl, iF rfl ?_⟩
    refine dw_or ?_
    refine dt_not ?_
    walk_at "val"
    refine de_c0 G1 hr (by decide) rfl (by decide) rfl rfl ?_
    walk_at "e"
    refine de_fld rfl ?_
    repeat walk_at "e"
    refine ⟨CL, _, _, _, .inl rfl, LF.isc.cl, LF.n1, lp, ?_⟩
    repeat walk_at "e"
    refine ⟨ps, by rw [hpl], by omega, fun p hp => (hps p hp).low, rfl, _, rfl, iF rfl ?_⟩
    refine dw_or1 ?_
    refine dt_cmpR op_ninR rfl ?_
    refine de_fld rfl ?_
    repeat walk_at "e"
    refine ⟨CL, _, _, _, .inl rfl, LF.isc.cl, LF.n2, lk, ?_⟩
    refine de_callTy cr_rng1 rfl B.range boot_range (by decide) (by decide) rfl rfl ?_
    repeat walk_at "e"
    refine rc_rng1 fun gp => ?_
    refine rd_ninR (j := 0) rfl ⟨_, rfl, iF (by simp; omega) ?_⟩
    refine dss_sub (O' := []) (List.nil_sublist _) ?_
    walk_at "e"
    walk_at "e"
    refine ds_par rfl hN (ixOf_at rfl) (ixOf_at rfl) (by decide) rfl rfl rfl rfl ?_
    walk_at "e"
    refine de_c0 G2 hr (by decide) rfl (by decide) rfl rfl ?_
    repeat walk_at "e"
    refine de_fld rfl ?_
    repeat walk_at "e"
    refine ⟨CL, _, _, _, .inl rfl, LF.isc.cl, LF.n1, lp, ?_⟩
    repeat walk_at "e"
    refine ⟨k, sc, rs1, ps, best, rfl, hk1, hk3, hs0, hs1, hl1, ho1, hpl, fun p hp => ⟨(hps p hp).low.1, (hps p hp).lt⟩, hb1, rfl, ?_⟩
    walk_at "e"
    refine de_c0 G2 hr (by decide) rfl (by decide) rfl rfl ?_
    repeat walk_at "e"
    refine de_fld rfl ?_
    repeat walk_at "e"
    refine ⟨CL, _, _, _, .inl rfl, LF.isc.cl, LF.n1, lp, ?_⟩
    repeat walk_at "e"
    refine ⟨k, sc, rs2, ps, best, rfl, hk1, hk3, hs0, hs1, hl2, ho2, hpl, fun p hp => ⟨(hps p hp).low.1, (hps p hp).lt⟩, hb2, rfl, ?_⟩
    repeat walk_at "e"
    refine ⟨_, _, rfl, ?_⟩
    walk_at "e"
    refine ds_if ?_
    refine dt_w (dw_or ?_)
    refine dt_cmpR op_isN (nomark _) ?_
    repeat walk_at "e"
    refine rd_isN (r := false) (fun I v n => notnon_lst n) ⟨_, rfl, iF rfl ?_⟩
    refine dw_or ?_
    refine dt_cmpR op_isN (nomark _) ?_
    repeat walk_at "e"
    refine rd_isN (r := false) (fun I v n => notnon_lst n) ⟨_, rfl, iF rfl ?_⟩
    refine dw_or1 ?_
    refine dt_cmpR (op_neD (room64 hr)) (nomark _) ?_
    refine de_lc (Oz := []) (own := [("_law_price", 6)]) rfl hN (blkOk_by (by kernel_rfl)) (by decide) (by intro _; rfl) (di_tup ?_)
    refine de_fld rfl ?_
    repeat walk_at "e"
    refine ⟨CL, _, _, _, .inl rfl, LF.isc.cl, LF.n1, lp, _, rfl, ?_⟩
    refine lcd_filter ps pD pD (fun p => decide (p.1 ≤ 0)) (sz1000 (by omega)) rfl (fun p hp => ?_) ?_
    · intro _ _ _ _ _
      walk_at "e"
      intro _ _ _ _ _
      refine dt_cmpR op_le (nomark _) ?_
      refine de_ix (fun _ _ => rfl) ?_
      repeat walk_at "e"
      refine ⟨_, _, _, sqd_t, rfl, rfl, ?_⟩
      repeat walk_at "e"
      refine rd_B0 ⟨_, rfl, rfl, ?_⟩
      have : decide (p.1 ≤ 0) = false := decide_eq_false (by have := (hps p hp).pos; omega)
      rw [this]
      exact iF rfl rfl
    have e0 : ps.filter (fun p => decide (p.1 ≤ 0)) = [] := List.filter_eq_nil_iff.mpr fun p hp z => by have := (hps p hp).pos; have := of_decide_eq_true z; omega
    rw [e0]
    refine de_lst ?_
    repeat walk_at "e"
    refine ⟨sz rfl, rd_neD rfl rfl rfl rfl ⟨_, rfl, iF rfl ?_⟩⟩
    repeat walk_at "e"
    refine de_cmpR op_lt (nomark _) ?_
    have gt : ∀ rs : List WRow, ((rngI 0 k).map fun j => unitsG best rs j)[j]? = some (unitsG best rs (j : Int)) := fun rs => by
      unfold rngI
      rw [List.map_map, List.getElem?_map, List.getElem?_range hj]
      simp
    refine de_ix (fun _ _ => rfl) ?_
    repeat walk_at "e"
    refine de_fld rfl ?_
    repeat walk_at "e"
    refine ⟨CL, _, _, _, .inl rfl, LF.isc.cl, LF.n2, lk, ?_⟩
    refine ⟨_, _, _, sqd_l, rfl, atI_nat (map_at (gt rs1)), ?_⟩
    refine de_ix (fun _ _ => rfl) ?_
    repeat walk_at "e"
    refine de_fld rfl ?_
    repeat walk_at "e"
    refine ⟨CL, _, _, _, .inl rfl, LF.isc.cl, LF.n2, lk, ?_⟩
    refine ⟨_, _, _, sqd_l, rfl, atI_nat (map_at (gt rs2)), ?_⟩
    exact rd_B0 kk
end
end
section
/-! ### two -/
abbrev GBlock (P : Program) (w : World) (K : PySem.W.Frag) (mg : Str → Option Value) (base : Heap) : Prop := Std P w K mg base 2 "_law_block" ["_law_pen_here", "_law_kinds", "_law_most"] fsBlock
abbrev GList (P : Program) (w : World) (K : PySem.W.Frag) (mg : Str → Option Value) (base : Heap) : Prop := Std P w K mg base 5 "_law_list" ["_law_pen_here", "_law_kinds", "_law_scale_here", "_law_most", "_law_many"] fsList
abbrev GMore (P : Program) (w : World) (K : PySem.W.Frag) (mg : Str → Option Value) (base : Heap) : Prop := Std P w K mg base 5 "_law_more" ["_law_pen_here", "_law_bids"] fsMore
/-- what the two lists are -/
structure TwoOk (k : Nat) (rs1 rs2 : List WRow) : Prop where
  p1 : Plain rs1
  p2 : Plain rs2
  o1 : ∀ r ∈ rs1, LOk k 8 r
  o2 : ∀ r ∈ rs2, LOk k 8 r
  few : Few k (rs1.length + rs2.length)
def fsTwo : FS := fun ds O post => ∃ (p : Addr) (m : MO) (k : Nat) (s : Int) (b : Nat), ds = [.raw (.ref p), .int (k : Int), .int s] ∧ 1 ≤ k ∧ k ≤ 3 ∧ O = [(p, m)] ∧ PenOk (b + 400) m ∧
  ∀ rs1 rs2 m', TwoOk k rs1 rs2 → PenOk b m' → post (.tup [lawD k s rs1, lawD k s rs2]) [(p, m')]
abbrev sTwo : Stmt := topS 70
abbrev nTwo : List Str := ["_law_pen_here", "_law_kinds", "_law_scale_here", "_law_one", "_law_rows", "_law_at", "_law_weight", "_law_numbers_here", "_law_number", "_law_kind"]
theorem scTwo : FnScope nTwo ["_law_pen_here", "_law_kinds", "_law_scale_here"] (defScope sTwo) := ⟨rfl, rfl, rfl, by decide +kernel, rfl, by decide +kernel, by decide +kernel⟩
theorem sum_posL {ls : List WRow} (h : ∀ r ∈ ls, posL r.2 = true) : sumP posL ls = (ls.map (·.1)).sum := by
  unfold sumP
  rw [List.filter_eq_self.mpr h]
theorem merged_ne {ls out : List WRow} (h : GM posL ls out) (hp : ∀ r ∈ ls, posL r.2 = true) (hs : (ls.map (·.1)).sum ≠ 0) : out ≠ [] := by
  intro e
  subst e
  have := GM.sum h (φ := posL) fun _ z => z
  rw [sum_posL hp] at this
  exact hs this.symm
section
variable {P : Program} {w : World} {K : PySem.W.Frag} {mg : Str → Option Value} {base : Heap} {f : Addr} {fd : FuncData}
theorem ok_two (F : FnP K "_law_two" sTwo f fd) (B : Bn mg) (G1 : GDraw P w K mg base) (G2 : GPick P w K mg base) (G3 : GMerged P w K mg base) (G4 : GBlock P w K mg base) (G5 : GList P w K mg base) (G6 : GMore P w K mg base) : FnOk P w K mg base CX0 6 f fd ["_law_pen_here", "_law_kinds", "_law_scale_here"] (spD P w fsTwo) := by
  refine fokX F scTwo (fun ds O post h => ?_) (fun cdv A outer s H E ds O post hr h => ?_)
  · obtain ⟨a, b, c, d, e, rfl, _⟩ := h; rfl
  · obtain ⟨p, m, k, sc, b, rfl, hk1, hk3, rfl, hp, kk⟩ := h
    have hN := scTwo.nd
    have hu1 := room1 hr
    -- a block, merged
    have blk : ∀ (mm : MO) (b' : Nat) {p1 p2 p3 p4 p5 p6 p7 p8 p9 : Pos} {c1 : Nat} {o3 o4 o5 o6 o7 o8 o9 : Option D} {post' : D → Own → Prop}, 2 ≤ k → PenOk (b' + 10) mm → (∀ out m2, Plain out → (∀ r ∈ out, LOk k 7 r) → out.length ≤ 4 → out ≠ [] → PenOk b' m2 → post' (lawD k sc out) [(p, m2)]) →
        DE (cxOf CX0 P w K mg base nTwo "_law_two" (defScope sTwo) f cdv A outer s H E).nox (.Call (.Name "_law_merged" p1) [.Name "_law_kinds" p2, .Name "_law_scale_here" p3, .Call (.Name "_law_block" p4) [.Name "_law_pen_here" p5, .Name "_law_kinds" p6, .Constant (.int 6) c1 p7] [] p8] [] p9)
          [some (.raw (.ref p)), some (.int (k : Int)), some (.int sc), o3, o4, o5, o6, o7, o8, o9] [(p, mm)] post' := by
      intro mm b' p1 p2 p3 p4 p5 p6 p7 p8 p9 c1 o3 o4 o5 o6 o7 o8 o9 post' hk2 hpm kp
      refine de_cO G3 hr (by decide) rfl (by decide) rfl rfl ?_
      walk_at "e"
      refine de_v rfl (.inl rfl) (by decide) (by decide) rfl ?_
      walk_at "e"
      refine de_v rfl (.inl rfl) (by decide) (by decide) rfl ?_
      walk_at "e"
      refine de_cO G4 hr (by decide) rfl (by decide) rfl rfl ?_
      repeat walk_at "e"
      refine ⟨[(p, mm)], [], List.Perm.refl _, p, mm, k, 6, b', rfl, hk2, hk3, by decide, by decide, rfl, hpm, fun ls m2 hl4 hlo hlp hls hp2 => ?_⟩
      repeat walk_at "e"
      refine ⟨[], _, List.Perm.refl _, k, sc, ls, 7, rfl, hk1, hk3, by omega, hlo, rfl, fun out hout => ?_⟩
      refine kp out m2 hout.plain (hout.ok fun r hr => ?_) ?_ (merged_ne hout (fun r hr => ?_) ?_) hp2
      · obtain ⟨l, hl, rfl⟩ := List.mem_map.mp hr
        exact (hlo l hl).2
      · have := hout.le
        rw [List.length_map] at this
        omega
      · obtain ⟨l, hl, rfl⟩ := List.mem_map.mp hr
        exact hlp l hl
      · rw [List.map_map]
        exact hls
    refine dss_cons (ds_nx (M := fun ρ O => ∃ m1, ρ = [some (.raw (.ref p)), some (.int (k : Int)), some (.int sc), none, none, none, none, none, none, none] ∧ O = [(p, m1)] ∧ PenOk (b + 399) m1) ?_ (fun ρ O ⟨m1, g1, g2, hp1⟩ => ?_))
    · refine ds_if (DT.imp (post := fun b' O' => ∃ m1, O' = [(p, m1)] ∧ PenOk (b + 399) m1 ∧ (b' = true → k = 2)) ?_ (fun b' O' ⟨m1, e1, hp1, e3⟩ => ?_))
      · refine dt_w (dw_and ?_)
        refine dt_cmpR op_eq (nomark _) ?_
        repeat walk_at "e"
        refine rd_eqI ⟨_, rfl, ?_⟩
        by_cases hk : k = 2
        · refine iT (decide_eq_true (by omega)) ?_
          refine dw_and1 ?_
          refine dt_cmpR op_eq (nomark _) ?_
          refine de_cO G1 hr (by decide) rfl (by decide) rfl rfl ?_
          repeat walk_at "e"
          refine ⟨[(p, m)], [], List.Perm.refl _, p, m, _, b + 399, rfl, by decide, by decide, rfl, hp, fun r m1 a1 a2 hp1 => ?_⟩
          repeat walk_at "e"
          exact rd_eqI ⟨_, rfl, m1, rfl, hp1, fun _ => hk⟩
        · refine iF (decide_eq_false (by omega)) ?_
          exact ⟨m, rfl, hp.mono (by omega), fun z => by cases z⟩
      subst e1
      cases b' with
      | false =>
        refine iF rfl ?_
        repeat walk_at "e"
        exact ⟨m1, rfl, rfl, hp1⟩
      | true =>
        refine iT rfl ?_
        have hk := e3 rfl
        walk_at "e"
        refine ds_st hN rfl (.inl rfl) rfl (.inr rfl) ?_
        refine blk m1 (b + 389) (by omega) (hp1.mono (by omega)) fun out m2 hpl hok hol hne hp2 => ?_
        walk_at "e"
        refine ds_st hN rfl (.inl rfl) rfl (.inr rfl) ?_
        walk_at "listof"
        walk_at "e"
        refine de_ixK hu1 (fun _ _ => rfl) ?_
        repeat walk_at "e"
        refine ⟨lawKs, _, .inr "rows", _, .inl rfl, rfl, lawL3, ?_⟩
        repeat walk_at "e"
        refine rc_lstO sqd_l fun rp => ?_
        walk_at "e"
        refine ds_st hN rfl (.inl rfl) rfl (.inr rfl) ?_
        refine de_cO G1 hr (by decide) rfl (by decide) rfl rfl ?_
        repeat walk_at "e"
        walk_at "len"
        repeat walk_at "e"
        refine rc_len (sqd_own (i := 0) rfl) ?_
        repeat walk_at "e"
        rw [List.length_map]
        have hrs0 : 0 < out.length := List.length_pos_iff.mpr hne
        refine ⟨[(p, m2)], [(rp, .lst (out.map lrowD))], List.Perm.swap _ _ _, p, m2, _, b + 388, rfl, by omega, by omega, rfl, hp2, fun at_ m3 b1 b2 hp3 => ?_⟩
        obtain ⟨rn, rfl⟩ := Int.eq_ofNat_of_zero_le b1
        obtain ⟨r, hrn⟩ : ∃ r, out[rn]? = some r := ⟨_, List.getElem?_eq_getElem (by omega)⟩
        have hrd : (out.map lrowD)[rn]? = some (.tup [.int r.1, .tup (r.2.map D.int)]) := map_at hrn
        have hro := hok r (List.mem_of_getElem? hrn)
        walk_at "e"
        refine ds_asg (ts := [6, 7]) ?_ rfl rfl rfl
        refine de_ix (fun _ _ => rfl) ?_
        repeat walk_at "e"
        refine ⟨_, _, _, sqd_own (i := 1) rfl, rfl, atI_nat hrd, ?_⟩
        repeat walk_at "e"
        refine ds_asg (ts := []) ?_ rfl rfl rfl
        refine de_cO G2 hr (by decide) rfl (by decide) rfl rfl ?_
        walk_at "e"
        refine de_v rfl (.inr (.inl rfl)) (by decide) (by decide) rfl ?_
        walk_at "e"
        refine de_lst ?_
        walk_at "e"
        refine de_tup ?_
        walk_at "e"
        refine de_op op_add ?_
        repeat walk_at "e"
        refine rd_I0 ?_
        repeat walk_at "e"
        refine ⟨sz rfl, ?_⟩
        walk_at "e"
        refine de_tup ?_
        walk_at "e"
        refine de_v rfl (.inl rfl) (by decide) (by decide) rfl ?_
        walk_at "e"
        refine de_lc (Oz := []) (own := [("_law_number", 8)]) rfl hN (blkOk_by (by kernel_rfl)) (by decide) (by intro _; rfl) (di_tup ?_)
        repeat walk_at "e"
        refine ⟨_, rfl, lcd_map r.2 D.int (fun n => .int (n + 1)) (sz1000 (by rw [hro.len]; omega)) rfl (fun n hn => ?_) ?_⟩
        · intro _ _ _ _ _
          repeat walk_at "e"
          intro _ _ _ _ _
          refine de_op op_add ?_
          repeat walk_at "e"
          exact rd_I0 ⟨rfl, rfl⟩
        repeat walk_at "e"
        refine ⟨sz rfl, ?_⟩
        repeat walk_at "e"
        refine ⟨sz rfl, ?_⟩
        repeat walk_at "e"
        refine ⟨[(p, m3)], [(rp, .lst (out.map lrowD))], List.Perm.refl _, p, m3, _, _, b + 387, rfl, .inl rfl, Nat.le_of_ble_eq_true rfl, Nat.le_of_ble_eq_true rfl, rfl, hp3, fun x m4 hx hp4 => ?_⟩
        obtain ⟨l, rfl, hl⟩ : ∃ l : LIn, x = l.d ∧ LIn.Ok k 8 l := by
          simp at hx
          rcases hx with rfl | rfl
          · exact ⟨lIn (r.1 + 1, r.2), rfl, lIn_ok ⟨hro.len, (hro.mono (show (7 : Int) ≤ 8 by omega)).ok⟩⟩
          · refine ⟨⟨.lst ((r.2.map (· + 1)).map D.int), (r.1, r.2.map (· + 1))⟩, ?_, .inl rfl, by rw [List.length_map]; exact hro.len, fun n hn => ?_⟩
            · unfold LIn.d
              rw [List.map_map]
              rfl
            · obtain ⟨n0, h, rfl⟩ := List.mem_map.mp hn
              have := hro.ok n0 h
              omega
        refine dg_sub set_list (by intro _; rfl) ?_
        repeat walk_at "e"
        have hix : ixN (out.map lrowD).length (rn : Int) = some rn := by
          rw [List.length_map]
          unfold ixN
          simp
          omega
        refine std_list (j := 1) rfl hix ?_
        have hset : (out.map lrowD).set rn l.d = ((out.map lIn).set rn l).map LIn.d := by rw [List.map_set, ← lIn_d]
        rw [hset]
        refine dss_fz 1 4 rfl rfl rfl ?_
        walk_at "e"
        walk_at "e"
        refine de_tup ?_
        walk_at "e"
        refine de_v rfl (.inl rfl) (by decide) (by decide) rfl ?_
        walk_at "e"
        refine de_cO G3 hr (by decide) rfl (by decide) rfl rfl ?_
        walk_at "e"
        refine de_v rfl (.inl rfl) (by decide) (by decide) rfl ?_
        walk_at "e"
        refine de_v rfl (.inl rfl) (by decide) (by decide) rfl ?_
        walk_at "e"
        refine de_v rfl (.inl rfl) (by decide) (by decide) rfl ?_
        repeat walk_at "e"
        have hls : ∀ x ∈ (out.map lIn).set rn l, LIn.Ok k 8 x := fun x hx => by
          rcases List.mem_or_eq_of_mem_set hx with h | rfl
          · obtain ⟨r0, h0, rfl⟩ := List.mem_map.mp h
            exact lIn_ok ((hok r0 h0).mono (by omega))
          · exact hl
        refine ⟨[], _, List.Perm.refl _, k, sc, (out.map lIn).set rn l, 8, rfl, hk1, hk3, by simp; omega, hls, rfl, fun out2 hout2 => ?_⟩
        repeat walk_at "e"
        refine ⟨sz rfl, kk out out2 m4 ⟨hpl, hout2.plain, fun r hr => (hok r hr).mono (by omega), hout2.ok fun r hr => ?_, ?_⟩ (hp4.mono (by omega))⟩
        · obtain ⟨l0, h0, rfl⟩ := List.mem_map.mp hr
          exact (hls l0 h0).2
        · have := hout2.le
          rw [List.length_map, List.length_set, List.length_map] at this
          exact ⟨by omega, fun z => by omega⟩
    · subst g1 g2
      refine dss_cons (ds_nx (M := fun ρ O => ∃ m2, ρ = [some (.raw (.ref p)), some (.int (k : Int)), some (.int sc), none, none, none, none, none, none, none] ∧ O = [(p, m2)] ∧ PenOk (b + 398) m2) ?_ (fun ρ O ⟨m2, g1, g2, hp2⟩ => ?_))
      · refine ds_if (DT.imp (post := fun b' O' => ∃ m2, O' = [(p, m2)] ∧ PenOk (b + 398) m2 ∧ (b' = true → k = 3)) ?_ (fun b' O' ⟨m2, e1, hp2, e3⟩ => ?_))
        · refine dt_w (dw_and ?_)
          refine dt_cmpR op_eq (nomark _) ?_
          repeat walk_at "e"
          refine rd_eqI ⟨_, rfl, ?_⟩
          by_cases hk : k = 3
          · refine iT (decide_eq_true (by omega)) ?_
            refine dw_and1 ?_
            refine dt_cmpR op_eq (nomark _) ?_
            refine de_cO G1 hr (by decide) rfl (by decide) rfl rfl ?_
            repeat walk_at "e"
            refine ⟨[(p, m1)], [], List.Perm.refl _, p, m1, _, b + 398, rfl, by decide, by decide, rfl, hp1, fun r m2 a1 a2 hp2 => ?_⟩
            repeat walk_at "e"
            exact rd_eqI ⟨_, rfl, m2, rfl, hp2, fun _ => hk⟩
          · refine iF (decide_eq_false (by omega)) ?_
            exact ⟨m1, rfl, hp1.mono (by omega), fun z => by cases z⟩
        subst e1
        cases b' with
        | false =>
          refine iF rfl ?_
          repeat walk_at "e"
          exact ⟨m2, rfl, rfl, hp2⟩
        | true =>
          refine iT rfl ?_
          have hk := e3 rfl
          walk_at "e"
          refine ds_st hN rfl (.inl rfl) rfl (.inr rfl) ?_
          refine blk m2 (b + 388) (by omega) (hp2.mono (by omega)) fun out m3 hpl hok hol hne hp3 => ?_
          walk_at "e"
          walk_at "e"
          refine de_tup ?_
          walk_at "e"
          refine de_v rfl (.inl rfl) (by decide) (by decide) rfl ?_
          walk_at "e"
          refine de_cO G3 hr (by decide) rfl (by decide) rfl rfl ?_
          walk_at "e"
          refine de_v rfl (.inl rfl) (by decide) (by decide) rfl ?_
          walk_at "e"
          refine de_v rfl (.inl rfl) (by decide) (by decide) rfl ?_
          walk_at "e"
          refine de_lst ?_
          walk_at "e"
          refine de_tup ?_
          repeat walk_at "e"
          refine de_lc (Oz := []) (own := [("_law_kind", 9)]) rfl hN (blkOk_by (by kernel_rfl)) (by decide) (by intro _; rfl) ?_
          walk_at "rng1"
          repeat walk_at "e"
          refine ⟨_, rfl, by omega, by omega, ?_⟩
          rw [Int.toNat_natCast]
          refine ⟨fun i acc O' => i ≤ k ∧ ∃ ns m', acc = ns.map D.int ∧ ns.length = i ∧ (∀ n ∈ ns, 0 ≤ n ∧ n ≤ 8) ∧ O' = [(p, m')] ∧ PenOk (b + 2 + (k - i)) m', ⟨Nat.zero_le _, [], m3, rfl, rfl, by simp, rfl, hp3.mono (by omega)⟩, fun i d acc O' hd ⟨hi, ns, m', e1, e2, e3, e4, e5⟩ => ?_, fun _ _ _ _ q hq => (nomatch hq), fun acc O' ⟨hi, ns, m', e1, e2, e3, e4, e5⟩ => ?_⟩
          · subst e1 e4
            obtain ⟨hlt, rfl⟩ := rngD_get hd
            have hp0 : PenOk (b + 2 + (k - (i + 1)) + 1) m' := e5.mono (by omega)
            intro _ _ _ _ _
            repeat walk_at "e"
            intro _ _ _ _ _
            refine de_op op_add ?_
            repeat walk_at "e"
            refine de_cO G1 hr (by decide) rfl (by decide) rfl rfl ?_
            repeat walk_at "e"
            refine ⟨[(p, m')], [], List.Perm.refl _, p, m', _, _, rfl, by decide, by decide, rfl, hp0, fun r1 m4 a1 a2 hp1 => ?_⟩
            refine rd_I0 ?_
            refine ⟨by rw [List.length_map]; exact Nat.lt_of_lt_of_le (show _ < 1000 by omega) (by decide), hlt, ns ++ [1 + r1], m4, by simp, by simp [e2], fun x hx => ?_, rfl, hp1⟩
            rcases List.mem_append.mp hx with h | h
            · exact e3 x h
            · simp at h; subst h; omega
          · subst e1 e4
            have hnl : ns.length = k := by rw [e2, rngD_length]
            have e5 : PenOk (b + 2) m' := e5.mono (by omega)
            repeat walk_at "e"
            refine ⟨sz rfl, ?_⟩
            repeat walk_at "e"
            refine ⟨sz rfl, ?_⟩
            repeat walk_at "e"
            refine ⟨[], _, List.Perm.refl _, k, sc, [⟨.lst (ns.map D.int), (1, ns)⟩], 8, rfl, hk1, hk3, Nat.le_of_ble_eq_true rfl, fun l hl => ?_, rfl, fun out2 hout2 => ?_⟩
            · simp at hl; subst hl
              exact ⟨.inl rfl, hnl, e3⟩
            repeat walk_at "e"
            refine ⟨sz rfl, kk out out2 m' ⟨hpl, hout2.plain, fun r hr => (hok r hr).mono (by omega), hout2.ok fun r hr => ?_, ?_⟩ (e5.mono (by omega))⟩
            · simp at hr; subst hr
              exact ⟨hnl, e3⟩
            · have := hout2.le
              simp at this
              exact ⟨by omega, fun z => by omega⟩
      · subst g1 g2
        walk_at "e"
        refine ds_st hN rfl (.inl rfl) rfl (.inr rfl) ?_
        refine de_cO G5 hr (by decide) rfl (by decide) rfl rfl ?_
        walk_at "e"
        refine de_v rfl (.inr (.inl rfl)) (by decide) (by decide) rfl ?_
        walk_at "e"
        refine de_v rfl (.inl rfl) (by decide) (by decide) rfl ?_
        walk_at "e"
        refine de_v rfl (.inl rfl) (by decide) (by decide) rfl ?_
        walk_at "e"
        refine de_int ?_
        walk_at "e"
        refine de_cO G1 hr (by decide) rfl (by decide) rfl rfl ?_
        walk_at "e"
        refine de_v rfl (.inr (.inl rfl)) (by decide) (by decide) rfl ?_
        walk_at "e"
        refine de_ixK hu1 (fun _ _ => rfl) ?_
        refine de_fz (i := 0) ?_
        refine de_disp rfl rfl (by simp) (by decide) ?_
        repeat walk_at "e"
        obtain ⟨nn, hnn, hn1, hn2, hlk⟩ : ∃ nn : Int, 0 < nn ∧ nn ≤ 3 ∧ (k = 3 → nn ≤ 2) ∧ kLk (κ := Key) [.inl 1, .inl 2, .inl 3] [D.int 3, .int 3, .int 2] (.inl (k : Int)) = some (.int nn) := by
          have : k = 1 ∨ k = 2 ∨ k = 3 := by omega
          rcases this with rfl | rfl | rfl
          · exact ⟨3, by decide, by decide, fun z => (nomatch z), rfl⟩
          · exact ⟨3, by decide, by decide, fun z => (nomatch z), rfl⟩
          · exact ⟨2, by decide, by decide, fun _ => by decide, rfl⟩
        refine ⟨[.inl 1, .inl 2, .inl 3], rfl, by decide, rfl, Nat.le_of_ble_eq_true rfl, fun dp => ⟨dp, _, rfl, rfl, rfl, ?_⟩⟩
        repeat walk_at "e"
        refine ⟨_, _, .inl (k : Int), _, .inl rfl, rfl, hlk, ?_⟩
        repeat walk_at "e"
        refine ⟨[(p, m2)], [], List.Perm.refl _, p, m2, nn, b + 397, rfl, hnn, by omega, rfl, hp2, fun n0 m3 n00 n01 hp3 => ?_⟩
        obtain ⟨n, rfl⟩ := Int.eq_ofNat_of_zero_le n00
        repeat walk_at "e"
        refine ⟨[(p, m3)], [], List.Perm.refl _, p, m3, k, sc, 6, n, b + 277, rfl, hk1, hk3, by decide, by decide, by omega, rfl, hp3.mono (by omega), fun out m4 hpl hok hol hp4 => ?_⟩
        refine dss_cons (ds_nx (M := fun ρ O => ∃ m5, ρ = [some (.raw (.ref p)), some (.int (k : Int)), some (.int sc), some (lawD k sc out), none, none, none, none, none, none] ∧ O = [(p, m5)] ∧ PenOk (b + 276) m5) ?_ (fun ρ O ⟨m5, g1, g2, hp5⟩ => ?_))
        · refine ds_if ?_
          refine dt_cmpR op_gt (nomark _) ?_
          refine de_cO G1 hr (by decide) rfl (by decide) rfl rfl ?_
          repeat walk_at "e"
          refine ⟨[(p, m4)], [], List.Perm.refl _, p, m4, _, b + 276, rfl, by decide, by decide, rfl, hp4, fun r m5 a1 a2 hp5 => ?_⟩
          repeat walk_at "e"
          refine rd_B0 ⟨_, rfl, ?_⟩
          by_cases h0 : 0 < r
          · refine iT (decide_eq_true h0) ?_
            walk_at "e"
            walk_at "e"
            refine de_tup ?_
            walk_at "e"
            refine de_v rfl (.inl rfl) (by decide) (by decide) rfl ?_
            walk_at "e"
            refine de_cO G6 hr (by decide) rfl (by decide) rfl rfl ?_
            repeat walk_at "e"
            refine ⟨[(p, m5)], [], List.Perm.refl _, p, m5, k, sc, out, b + 176, rfl, hk1, hk3, by omega, hok, rfl, hp5.mono (by omega), fun out2 m6 hpl2 hok2 hol2 hp6 => ?_⟩
            repeat walk_at "e"
            exact ⟨sz rfl, kk out out2 m6 ⟨hpl, hpl2, fun r hr => (hok r hr).mono (by omega), hok2, by omega, fun z => by have := hn2 z; omega⟩ (hp6.mono (by omega))⟩
          · refine iF (decide_eq_false h0) ?_
            repeat walk_at "e"
            exact ⟨m5, rfl, rfl, hp5⟩
        · subst g1 g2
          walk_at "e"
          walk_at "e"
          refine de_tup ?_
          walk_at "e"
          refine de_v rfl (.inl rfl) (by decide) (by decide) rfl ?_
          walk_at "e"
          refine de_cO G5 hr (by decide) rfl (by decide) rfl rfl ?_
          walk_at "e"
          refine de_v rfl (.inr (.inl rfl)) (by decide) (by decide) rfl ?_
          walk_at "e"
          refine de_v rfl (.inl rfl) (by decide) (by decide) rfl ?_
          walk_at "e"
          refine de_v rfl (.inl rfl) (by decide) (by decide) rfl ?_
          walk_at "e"
          refine de_int ?_
          walk_at "e"
          refine de_cO G1 hr (by decide) rfl (by decide) rfl rfl ?_
          repeat walk_at "e"
          refine ⟨[(p, m5)], [], List.Perm.refl _, p, m5, _, b + 275, rfl, by decide, by decide, rfl, hp5, fun r m6 a1 a2 hp6 => ?_⟩
          obtain ⟨n2, rfl⟩ := Int.eq_ofNat_of_zero_le a1
          repeat walk_at "e"
          refine ⟨[(p, m6)], [], List.Perm.refl _, p, m6, k, sc, 6, n2, b + 155, rfl, hk1, hk3, by decide, by decide, by omega, rfl, hp6.mono (by omega), fun out2 m7 hpl2 hok2 hol2 hp7 => ?_⟩
          repeat walk_at "e"
          exact ⟨sz rfl, kk out out2 m7 ⟨hpl, hpl2, fun r hr => (hok r hr).mono (by omega), fun r hr => (hok2 r hr).mono (by omega), by omega, fun z => by have := hn2 z; omega⟩ (hp7.mono (by omega))⟩
end
end
section
/-! ### the two laws in one -/
theorem same_one (R : List WRow) : Same 1 R R := by
  have e : ∀ l : List Int, l.map (· / 1) = l := fun l => by simp
  exact ⟨by decide, fun r _ n _ => ⟨n, by omega⟩, fun r hr => ⟨r, hr, (e r.2).symm⟩, fun r hr => ⟨r, hr, (e r.2).symm⟩⟩
section
variable {k : Nat} {R : List WRow}
theorem place_best (hk1 : 1 ≤ k) (hk3 : k ≤ 3) {q : List Int} (h : IsPlace (IsPl R) k q) {ns : List Int} (hl : ns.length = k) : -1 ≤ bestL q ns ∧ bestL q ns < k ∧ ∀ t, IsTop (worthsF ns q) t → bestsL (worthsF ns q) t = [bestL q ns] := by
  obtain ⟨p, st, hc, hs, _, rfl⟩ := (place_iff (same_one R) hk1 hk3 q).mp h
  obtain ⟨e, h1, h2, h3, _⟩ := best_all (s := 1) (t := 1) (g := 1) (by decide) (by decide) (by decide) rfl (offs_ok k hk1 hk3 st hs) hl (corner_len hc) (offs_len hs) fun n _ => ⟨n, by omega⟩
  rw [e]
  exact ⟨h1, h2, h3⟩
theorem bestL_pos {q ns : List Int} {j : Nat} (h : bestL q ns = (j : Int)) : posL ns = true := by
  have h := bI_eq.mp h
  apply Classical.byContradiction
  intro hno
  have hz : ∀ n ∈ ns, ¬ 0 < n := fun n hn hp => hno (by unfold posL; rw [List.any_eq_true]; exact ⟨n, hn, decide_eq_true hp⟩)
  have : topIx (worthsF ns q) = none := topIx_none.mpr fun x hx => by
    unfold worthsF at hx
    obtain ⟨z, h1, rfl⟩ := List.mem_map.mp hx
    have := hz z.1 (List.of_mem_zip h1).1
    unfold worthF
    rw [if_neg this]
    omega
  rw [this] at h
  cases h
theorem gm_units {rs1 rs2 G : List WRow} (h : GM posL (rs1 ++ rs2.map negR) G) (q : List Int) (j : Nat) : unitsG (bestL q) G (j : Int) = unitsG (bestL q) rs1 (j : Int) - unitsG (bestL q) rs2 (j : Int) := by
  rw [unitsG_sum, unitsG_sum, unitsG_sum, h.sum fun x hx => bestL_pos (of_decide_eq_true hx), sumP_append]
  have : sumP (fun ns => decide (bestL q ns = (j : Int))) (rs2.map negR) = -sumP (fun ns => decide (bestL q ns = (j : Int))) rs2 := sumP_neg _ rs2
  rw [this]
  omega
/-- somewhere one of rsA takes fewer than one of rsB -/
def FewAB (k : Nat) (R rsA rsB : List WRow) : Prop := ∃ q, IsPlace (IsPl R) k q ∧ ∃ j : Nat, j < k ∧ unitsG (bestL q) rsA (j : Int) < unitsG (bestL q) rsB (j : Int)
theorem units_congr {f g : List Int → Int} {rs : List WRow} (h : ∀ r ∈ rs, f r.2 = g r.2) (j : Int) : unitsG f rs j = unitsG g rs j := by
  rw [unitsG_sum, unitsG_sum]
  exact sumP_congr fun r hr => by rw [h r hr]
variable {s t : Int} {rsA rsB : List WRow} {outA outB m1 gap : List Row}
theorem TScale.le (hs : 0 < s) (T : TScale s (outA ++ outB) t) : t ≤ s := Int.le_of_dvd hs T.dv
theorem dir_units (hk1 : 1 ≤ k) (hk3 : k ≤ 3) (hs : 0 < s) (A : Side k s rsA outA) (B : Side k s rsB outB) (T : TScale s (outA ++ outB) t) (hR : ∀ r, r ∈ R ↔ r ∈ rsA ∨ r ∈ rsB) :
    ∃ g, s = g * t ∧ Same g R ((outA ++ outB).map (wholeR t)) := by
  obtain ⟨g, hg⟩ := T.dv
  have hg' : s = g * t := by rw [hg, Int.mul_comm]
  exact ⟨g, hg', (same_of hs A B T hg' hR).1⟩
theorem dir_none (hk1 : 1 ≤ k) (hk3 : k ≤ 3) (hs : 0 < s) (A : Side k s rsA outA) (B : Side k s rsB outB) (T : TScale s (outA ++ outB) t) (hm : IsMerge (outB.map fun r => (-r.1, r.2)) m1) (hgap : IsMerge (outA ++ m1) gap) (hR : ∀ r, r ∈ R ↔ r ∈ rsA ∨ r ∈ rsB)
    (h : ∀ p st, IsCorner ((outA ++ outB).map (wholeR t)) k p → st ∈ offsF k → (∀ x ∈ tryP p st, 0 < x) → ∀ u ∈ gapU k t gap p st, 0 ≤ u) : ¬ FewAB k R rsA rsB := by
  obtain ⟨g, hg, S⟩ := dir_units hk1 hk3 hs A B T hR
  rintro ⟨q, hq, j, hj, hlt⟩
  obtain ⟨p, st, hc, hst, hpos, rfl⟩ := (place_iff S hk1 hk3 q).mp hq
  have e := gapU_eq hk1 hk3 hs A B T hg hR hm hgap p st
  have be : ∀ r ∈ R, bestL (addL (upP g p) st) r.2 = bestG g p st r.2 := fun r hr => by
    have hl : r.2.length = k := by
      rcases (hR r).mp hr with h | h
      · exact (A.ok r h).len
      · exact (B.ok r h).len
    exact (best_all hs T.pos S.pos hg (offs_ok k hk1 hk3 st hst) hl (corner_len hc) (offs_len hst) (S.dv r hr)).1
  rw [units_congr (fun r hr => be r ((hR r).mpr (.inl hr))), units_congr (g := bestG g p st) (fun r hr => be r ((hR r).mpr (.inr hr)))] at hlt
  have := h p st hc hst hpos (unitsG (bestG g p st) rsA (j : Int) - unitsG (bestG g p st) rsB (j : Int)) (by
    rw [e]
    exact List.mem_map.mpr ⟨(j : Int), rngI_mem.mpr ⟨j, hj, rfl⟩, rfl⟩)
  omega
theorem redP_low (a : Int) {d : Int} (hd : 0 < d) : Int.gcd (redP a d).1 (redP a d).2 = 1 := by
  unfold redP
  exact Int.gcd_ediv_gcd_ediv_gcd (Int.gcd_pos_of_ne_zero_right a (by omega))
theorem redP_le {a d : Int} (hd : 0 < d) : (redP a d).2 ≤ d := by
  unfold redP
  exact Int.ediv_le_self _ (by omega)
theorem dir_less (hk1 : 1 ≤ k) (hk3 : k ≤ 3) (hs : 0 < s) (hs10 : s ≤ 10) (A : Side k s rsA outA) (B : Side k s rsB outB) (T : TScale s (outA ++ outB) t) (hm : IsMerge (outB.map fun r => (-r.1, r.2)) m1) (hgap : IsMerge (outA ++ m1) gap) (hR : ∀ r, r ∈ R ↔ r ∈ rsA ∨ r ∈ rsB)
    {p st : List Int} {m : Int} (hc : IsCorner ((outA ++ outB).map (wholeR t)) k p) (hst : st ∈ offsF k) (hpos : ∀ x ∈ tryP p st, 0 < x) (hmem : m ∈ gapU k t gap p st) (h0 : m < 0) :
    FewAB k R rsA rsB ∧ (gapU k t gap p st).idxOf m < k ∧ (∀ z ∈ (tryP p st).map fun v => redP v (8 * t), TOk z) ∧ ((tryP p st).map fun v => redP v (8 * t)).length = k ∧
      ∃ best : List Int → Int, (∀ r ∈ R, -1 ≤ best r.2 ∧ best r.2 < k ∧ bestsT (worthsT s r.2 ((tryP p st).map fun v => redP v (8 * t))) = [best r.2]) ∧
        unitsG best rsA (((gapU k t gap p st).idxOf m : Nat) : Int) < unitsG best rsB (((gapU k t gap p st).idxOf m : Nat) : Int) := by
  obtain ⟨g, hg, S⟩ := dir_units hk1 hk3 hs A B T hR
  have ht := T.pos
  have hts := T.le hs
  have e := gapU_eq hk1 hk3 hs A B T hg hR hm hgap p st
  have all : ∀ r ∈ R, _ := fun r hr => best_all hs T.pos S.pos hg (offs_ok k hk1 hk3 st hst) (show r.2.length = k by
    rcases (hR r).mp hr with h | h
    · exact (A.ok r h).len
    · exact (B.ok r h).len) (corner_len hc) (offs_len hst) (S.dv r hr)
  have hi := get_idxOf hmem
  have hlen : (gapU k t gap p st).length = k := by rw [e, List.length_map, rngI_len]
  have hik : (gapU k t gap p st).idxOf m < k := by
    have := List.idxOf_lt_length_of_mem hmem
    omega
  generalize (gapU k t gap p st).idxOf m = i at hi hik ⊢
  rw [e, List.getElem?_map, rngI_at hik] at hi
  have hd : unitsG (bestG g p st) rsA (i : Int) - unitsG (bestG g p st) rsB (i : Int) = m := Option.some.inj hi
  refine ⟨⟨addL (upP g p) st, (place_iff S hk1 hk3 _).mpr ⟨p, st, hc, hst, hpos, rfl⟩, i, hik, ?_⟩, hik, fun z hz => ?_, ?_, bestG g p st, fun r hr => ?_, by omega⟩
  · rw [units_congr (fun r hr => (all r ((hR r).mpr (.inl hr))).1), units_congr (g := bestG g p st) (fun r hr => (all r ((hR r).mpr (.inr hr))).1)]
    omega
  · obtain ⟨v, hv, rfl⟩ := List.mem_map.mp hz
    obtain ⟨h1, h2⟩ := redP_pos' v (d := 8 * t) (by omega)
    have h3 := redP_le (a := v) (d := 8 * t) (by omega)
    refine ⟨⟨h1, by omega, redP_low v (by omega)⟩, by omega, ?_⟩
    have : 0 < v * (redP v (8 * t)).2 := Int.mul_pos (hpos v hv) h1
    rw [h2, Int.mul_comm] at this
    exact (gpos (g := 8 * t) (by omega)).mp this
  · rw [List.length_map]
    unfold tryP
    rw [List.length_map, List.length_zip, corner_len hc, offs_len hst, Nat.min_self]
  · obtain ⟨_, h1, h2, _, h4⟩ := all r hr
    exact ⟨h1, h2, h4⟩
end
end
end AB
namespace AB
open PySem PySem.Spec PyProof.Rows L2
/-! ### a def of which only True is asked -/
section
variable {X : Cx} {st : Stmt} {sts : List Stmt} {ρ : Env'} {O : Own}
structure DSsU (X : Cx) (sts : List Stmt) (ρ : Env') (O : Own) (p : Post) : Prop where
  out : PSs X sts fun Dn σ H => (∀ H', Dn.rt (.bl true) H') ∧ rdS X.prog X.w ρ O p Dn σ H
def tU (X : Cx) (sts : List Stmt) : TS := fun Dn σ H => ∃ ρ O p, DSsU X sts ρ O p ∧ (∀ H', Dn.rt (.bl true) H') ∧ rdS X.prog X.w ρ O p Dn σ H
theorem any_u : PSs X sts (tU X sts) := ⟨fun pins s σ H Dn I ⟨_, _, _, h, u, q⟩ => h.out.run pins s σ H Dn I ⟨u, q⟩⟩
theorem u_cons {p : Post} (h : DS X st ρ O { p with nx := fun ρ' O' => DSsU X sts ρ' O' p }) : DSsU X (st :: sts) ρ O p := ⟨⟨fun pins s σ H Dn I ⟨u, J, s', h1, h2, h3, h4⟩ =>
  (pss_cons any_s any_u).run pins s σ H Dn I ⟨ρ, O, _, h, J, s', fun σ' J' H' ρ' O' g s'' hs => ⟨ρ', O', p, hs, u, rdS.mk s'' g h1 h2 h3 h4⟩, h2, h3, h4⟩⟩⟩
theorem u_last {t : TS} {p : Post} (h : PS X st t) (hw : ∀ (Dn : Ends) (σ : L2.St) (I H : Hp), Stt X.prog X.w I H ρ σ O → (∀ H', Dn.rt (.bl true) H') → t Dn σ H) : DSsU X [st] ρ O p :=
  ⟨⟨fun pins s σ H Dn I ⟨u, J, s', _⟩ => (pss_one h).run pins s σ H Dn I (hw Dn σ J H s' u)⟩⟩
end
/-! ### the last line: _law_fault(lambda: takes_no_less(_law_wide, _law_second)) == ("unlike", "kinds") -/
/-- what the head tells of the table of the def law, and of the lambda's callees -/
structure LamG (P : Program) (w : World) (K : PySem.W.Frag) (mg : Str → Option Value) (base : Heap) (C CR CU c Pt : Addr) : Prop where
  tab : LamX.TabB base mg c Pt
  row : mg "BadRow" = some (.ref CR)
  unl : mg "Unlike" = some (.ref CU)
  xf : XfC K CU
  no : PySem.W.findIn K (.ref CU) "what" = some none
  ex1 : PySem.W.exmOne K (.ref CU) (.ref CR) = some false
  ex2 : PySem.W.exmOne K (.ref CU) (.ref CU) = some true
  fault : ∃ f fd, mg "_law_fault" = some (.ref f) ∧ Binds K fd ["_law_call"] [] ∧ FnP K "_law_fault" sFault f fd
  takes : ∃ f fd, mg "takes_no_less" = some (.ref f) ∧ PySem.W.keepIn K (.ref f) = true ∧ Binds K fd ["one", "other"] [] ∧ FnOk P w K mg base (L2.CX P w) 4 f fd ["one", "other"] (spUnlike C CU)
theorem room64u {k : Nat} {A : Around} (hr : Room k A) : A.units + 64 < cLine := Nat.lt_of_le_of_lt (by omega) hr.un
theorem vis_free {sc : Scope} {x : Str} (h : sc.names.lookup x = some .free) : Vis sc x := .inr (.inr h)
section
variable {X : Cx} {C CR CU c Pt : Addr} {params : Arguments} {scope : Scope} {k1 k2 : Int} {r1 r2 : List D} {i j : Nat} {x y : Str} {ρ : Env'} {O : Own} {pw : Post} {l : Nat} {n1 n2 n3 : Nat} {q1 q2 q3 q4 q5 q6 q7 q8 q9 q10 q11 q12 : Pos}
theorem u_fault (G : LamG X.prog X.w X.K X.mg X.base C CR CU c Pt) (hcode : X.env.code = .ref c) (hr : Room 6 X.A) (hg : Gl X "_law_fault") (L : LamX.LamS X.env.scope scope) (hgl : scope.names.lookup ("takes_no_less" : Str) = some .globalImplicit)
    (hx : X.N[i]? = some x) (hy : X.N[j]? = some y) (vx : Vis scope x) (vy : Vis scope y) (dx : (x == ("__debug__" : Str)) = false) (dy : (y == ("__debug__" : Str)) = false) (cx : (x == ("__classdict__" : Str)) = false) (cy : (y == ("__classdict__" : Str)) = false)
    (hdef : defaultsOf params X.env = ([], [])) (hbind : ∀ (q : Str) (cl : List (Str × Addr)) (pm cv ctv : Value), bindArgs (PySem.W.kla_fn "<lambda>" q params (.Call (.Name "takes_no_less" q1) [.Name x q2, .Name y q3] [] q4) scope cl pm cv ctv) ⟨[], []⟩ = pure [])
    (hO : O[l]? = some (Pt, .any (.tbl #[]))) (e1 : ρ[i]? = some (some (.ins C ["kinds", "rows"] (.int k1 :: r1)))) (e2 : ρ[j]? = some (some (.ins C ["kinds", "rows"] (.int k2 :: r2)))) (z1 : r1.length = 1) (z2 : r2.length = 1) (hk : k1 ≠ k2) :
    DSsU X [.Return (some (.Compare (.Call (.Name "_law_fault" q5) [.Lambda params (.Call (.Name "takes_no_less" q1) [.Name x q2, .Name y q3] [] q4) scope q6] [] q7) [.Eq] [.Tuple [.Constant (.str "unlike") n1 q8, .Constant (.str "kinds") n2 q9] n3 q10] q11)) q12] ρ O pw := by
  obtain ⟨fF, fdF, mF, bF, FF⟩ := G.fault
  obtain ⟨fT, fdT, mT, kT, bT, FT⟩ := G.takes
  obtain ⟨oc, od, dV, kV, doc, pm, an, cdv, ct, osl, rfl, lk, hcd, _, _⟩ := FF.ex
  refine u_last (ps_ret (pe_cmpR (op_eqD (room64u hr)) (LamX.pe_lamcall (T := [(Pt, X.env.qual ++ "<lambda>")]) (k := 4) (t := fun E => tCall (spUnlike C CU) [] E (tCons (tVar i) (tCons (tVar j) tNil))) hg mF FF.kp lk hcd bF scFault rfl (.inl rfl)
    (fault_gives G.row G.unl G.xf G.no) G.tab hcode (List.mem_singleton.mpr rfl) (fun p hp _ => by rw [List.mem_singleton.mp hp]) (hr.mono (by decide)) L hdef hbind (fun A outer s H E f c' hr2 => ?_)) (pe_tup (pa_cons pe_str (pa_cons pe_str pa_nil))) rfl)) (fun Dn σ I H S u => ?_)
  · refine pe_call (E := E) FT hr2 hgl mT kT bT .nil (passes_call (takes_of rfl rfl rfl rfl) fun _ _ _ _ z => z) (pa_cons (pe_var hx vx dx cx) (pa_cons (pe_var hy vy dy cy) pa_nil)) (by decide) rfl rfl
  · obtain ⟨v1, s1, a1, d1, xs1, rfl, h1, l1, m1⟩ := S.env i _ e1
    obtain ⟨v2, s2, a2, d2, xs2, rfl, h2, l2, m2⟩ := S.env j _ e2
    obtain ⟨u1, t1, rfl, f1, m1⟩ := m1
    obtain ⟨u2, t2, rfl, f2, m2⟩ := m2
    have g1 := m1.length
    have g2 := m2.length
    obtain ⟨b1, rfl⟩ : ∃ b, t1 = [b] := List.length_eq_one_iff.mp (by omega)
    obtain ⟨b2, rfl⟩ : ∃ b, t2 = [b] := List.length_eq_one_iff.mp (by omega)
    obtain ⟨_, hT⟩ := S.own.own _ (List.mem_of_getElem? hO)
    refine ⟨fun p hp => ?_, fun H1 eN T1 => fun H2 eH Q' => ?_⟩
    · rw [List.mem_singleton.mp hp]
      exact LamX.TabS.nil hT
    · have hi1 : H2 a1 = some (.ins C d1 [("kinds", .int k1), ("rows", b1)]) := eH _ _ (eN _ _ (S.sub _ _ h1) (fun ps z => by cases z)) |>.trans (by rw [show u1 = V.int k1 from f1]; rfl)
      have hi2 : H2 a2 = some (.ins C d2 [("kinds", .int k2), ("rows", b2)]) := eH _ _ (eN _ _ (S.sub _ _ h2) (fun ps z => by cases z)) |>.trans (by rw [show u2 = V.int k2 from f2]; rfl)
      refine ⟨_, s1, _, s2, a1, a2, d1, d2, k1, k2, b1, b2, rfl, hi1, hi2, hk, fun dd H3 _ hd => ⟨rfl, G.ex1, G.ex2, dd, rfl, hd, fun p H4 hp => ?_⟩⟩
      refine ⟨by decide, fun p2 hp2 => ?_⟩
      have dn : ∀ {H5 : Hp} {b : Addr}, H5 b = some (.tup [.str "unlike", .str "kinds"]) → Dp X.K H5 (.ref b) (pyD (.tup [.str "unlike", .str "kinds"])) := fun {H5 b} hb => dp_of (Ex.refl H5) (.tup [.str "unlike", .str "kinds"]) ⟨b, _, rfl, hb, _, _, rfl, rfl, _, _, rfl, rfl, rfl⟩ rfl
      refine ⟨_, _, dn (by rw [upd_ne (ne_of_none hp hp2)]; exact hp), dn upd_same, by kernel_rfl, by kernel_rfl, ?_⟩
      exact u _
end
end AB
namespace AB
open PySem PySem.Spec PyProof.Rows L2
local macro_rules | `(tactic| walk_at "d") => `(tactic| first
  | refine dss_cons ?_ | refine dss_nil ?_ | refine ds_ret ?_ | refine ds_if ?_
  | refine de_v rfl (by first | exact .inl rfl | exact .inr (.inl rfl) | exact .inr (.inr rfl)) (by decide) (by decide) rfl ?_
  | refine de_int ?_ | refine de_bl ?_ | refine de_non ?_ | refine de_str ?_
  | refine de_and ?_ | refine de_or ?_ | refine de_one ?_ | refine de_not ?_ | refine dt_not ?_ | refine dt_w (dw_and ?_) | refine dt_w (dw_or ?_) | refine dw_and ?_ | refine dw_or ?_ | refine dw_and1 ?_ | refine dw_or1 ?_
  | refine da_cons rfl ?_ | refine da_nil ?_
  | refine dg_tup rfl rfl rfl ?_ | refine dgs_cons rfl ?_ | refine dgs_nil ?_ | refine dg_v (by assumption) rfl (by first | exact .inl rfl | exact .inr rfl) (by first | exact .inr rfl | exact .inl rfl) (by decide) ?_
  | refine de_tup ?_ | refine de_if ?_ | refine de_negI ?_ | refine de_neg ?_ | refine de_ix (fun _ _ => rfl) ?_
  | refine ds_st (by assumption) rfl (by first | exact .inl rfl | exact .inr rfl) rfl (by first | exact .inl rfl | exact .inr rfl) ?_)
local macro_rules | `(tactic| walk_at "e") => `(tactic| first
  | refine dss_cons ?_ | refine dss_nil ?_ | refine ds_ret ?_ | refine ds_if ?_
  | refine de_v rfl (by first | exact .inl rfl | exact .inr (.inl rfl) | exact .inr (.inr rfl)) (by decide) (by decide) rfl ?_
  | refine de_int ?_ | refine de_bl ?_ | refine de_non ?_ | refine de_str ?_
  | refine de_and ?_ | refine de_or ?_ | refine de_one ?_ | refine de_not ?_ | refine dt_not ?_ | refine dt_w (dw_and ?_) | refine dt_w (dw_or ?_) | refine dw_and ?_ | refine dw_or ?_ | refine dw_and1 ?_ | refine dw_or1 ?_
  | refine da_cons rfl ?_ | refine da_nil ?_
  | refine dg_tup rfl rfl rfl ?_ | refine dgs_cons rfl ?_ | refine dgs_nil ?_ | refine dg_v (by assumption) rfl (by first | exact .inl rfl | exact .inr rfl) (by first | exact .inr rfl | exact .inl rfl) (by decide) ?_
  | refine de_tup ?_ | refine de_if ?_ | refine de_negI ?_
  | refine ds_st (by assumption) rfl (by first | exact .inl rfl | exact .inr rfl) rfl (by first | exact .inl rfl | exact .inr rfl) ?_)
local macro_rules | `(tactic| walk_at "isi") => `(tactic| refine de_callB call_isi rfl (Bn.isinstance (by assumption)) boot_isinstance (by decide) (by decide) rfl rfl ?_)
local macro_rules | `(tactic| walk_at "isiT") => `(tactic| refine de_callB call_isiT rfl (Bn.isinstance (by assumption)) boot_isinstance (by decide) (by decide) rfl rfl ?_)
local macro_rules | `(tactic| walk_at "int") => `(tactic| refine de_ty rfl (Bn.int (by assumption)) boot_int (by decide) (by decide) ?_)
local macro_rules | `(tactic| walk_at "bool") => `(tactic| refine de_ty rfl (Bn.bool (by assumption)) boot_bool (by decide) (by decide) ?_)
local macro_rules | `(tactic| walk_at "tuple") => `(tactic| refine de_ty rfl (Bn.tuple (by assumption)) boot_tuple (by decide) (by decide) ?_)
local macro_rules | `(tactic| walk_at "list") => `(tactic| refine de_ty rfl (Bn.list (by assumption)) boot_list (by decide) (by decide) ?_)
local macro_rules | `(tactic| walk_at "len") => `(tactic| refine de_callB call_len_seq rfl (Bn.len (by assumption)) boot_len (by decide) (by decide) rfl rfl ?_)

local macro_rules | `(tactic| walk_at "tupof") => `(tactic| refine de_callTy call_tuple_of rfl (Bn.tuple (by assumption)) boot_tuple (by decide) (by decide) rfl rfl ?_)
local macro_rules | `(tactic| walk_at "all") => `(tactic| refine de_callB (cr_all rfl) rfl (Bn.all (by assumption)) boot_all (by decide) (by decide) rfl rfl ?_)
local macro_rules | `(tactic| walk_at "any") => `(tactic| refine de_callB (cr_any rfl) rfl (Bn.any (by assumption)) boot_any (by decide) (by decide) rfl rfl ?_)
local macro_rules | `(tactic| walk_at "val") => `(tactic| refine dt_val (by intro _; rfl) ?_)
local macro_rules | `(tactic| walk_at "T") => `(tactic| refine iT (by first | rfl | assumption) ?_)
local macro_rules | `(tactic| walk_at "F") => `(tactic| refine iF (by first | rfl | assumption) ?_)
local macro_rules | `(tactic| walk_at "lc") => `(tactic| refine de_lc (Oz := []) rfl (by assumption) (blkOk_by (by kernel_rfl)) (by decide) (by intro _; rfl) ?_)
local macro_rules | `(tactic| walk_at "listof") => `(tactic| refine de_callTy call_list_of rfl (Bn.list (by assumption)) boot_list (by decide) (by decide) rfl rfl ?_)
local macro_rules | `(tactic| walk_at "max") => `(tactic| refine de_callB (cr_maxT rfl (room9 (by assumption))) rfl (Bn.max (by assumption)) boot_max (by decide) (by decide) rfl rfl ?_)
local macro_rules | `(tactic| walk_at "min") => `(tactic| refine de_callB (cr_minT rfl (room9 (by assumption))) rfl (Bn.min (by assumption)) boot_min (by decide) (by decide) rfl rfl ?_)
local macro_rules | `(tactic| walk_at "rng1") => `(tactic| refine di_rng1 rfl (Bn.range (by assumption)) rfl ?_)
local macro_rules | `(tactic| walk_at "lrng1") => `(tactic| refine de_listRg1 rfl (Bn.list (by assumption)) rfl (Bn.range (by assumption)) rfl rfl rfl ?_)
local macro_rules | `(tactic| walk_at "lrng2") => `(tactic| refine de_listRg2 rfl (Bn.list (by assumption)) rfl (Bn.range (by assumption)) rfl rfl rfl rfl rfl ?_)
local macro_rules | `(tactic| walk_at "expr") => `(tactic| refine ds_expr rfl ?_)
local macro_rules | `(tactic| walk_at "sortedP") => `(tactic| refine de_callB cr_sortedPO rfl (Bn.sorted (by assumption)) boot_sorted (by decide) (by decide) rfl rfl ?_)
local macro_rules | `(tactic| walk_at "intof") => `(tactic| refine de_callTy call_int1 rfl (Bn.int (by assumption)) boot_int (by decide) (by decide) rfl rfl ?_)
local macro_rules | `(tactic| walk_at "abs") => `(tactic| refine de_callB call_abs rfl (Bn.abs (by assumption)) boot_abs (by decide) (by decide) rfl rfl ?_)
local macro_rules | `(tactic| walk_at "min2") => `(tactic| refine de_callB (call_min2 rfl) rfl (Bn.min (by assumption)) boot_min (by decide) (by decide) rfl rfl ?_)
section
/-! ### law -/
abbrev sLaw : Stmt := topS 71
abbrev nLaw : List Str := ["_law_script", "_law_pen_here", "_law_kinds", "_law_scale_here", "_law_one", "_law_other", "_law_both", "_law_gap", "_law_fewer", "_law_more_here", "_law_place", "_law_units_here", "_law_first", "_law_left", "_law_right", "_law_mine", "_law_yours", "_law_is_less_here", "_law_told", "_law_hand", "_law_same", "_law_second", "_law_wide"]
theorem scLaw : FnScope nLaw ["_law_script"] (defScope sLaw) := ⟨rfl, rfl, rfl, by decide +kernel, rfl, by decide +kernel, by decide +kernel⟩
def spLaw (K : PySem.W.Frag) (Pt : Addr) : Sp := fun vs H Q _ => ∃ (a : Addr) (ns : List Int), vs = [.ref a] ∧ SqL K H a (ns.map V.int) ∧ ns.length ≤ 63 ∧ H Pt = some (.tbl #[]) ∧ ∀ H', Q (.bl true) H'
/-- the units of the gap at the law's place q -/
def UL (k : Nat) (G : List WRow) (q : List Int) : List Int := (rngI 0 k).map fun j => unitsG (bestL q) G j
def fwL (k : Nat) (G : List WRow) (L : List (List Int)) : Bool := L.any fun q => (UL k G q).any fun u => decide (u < 0)
def mrL (k : Nat) (G : List WRow) (L : List (List Int)) : Bool := L.any fun q => (UL k G q).any fun u => decide (0 < u)
theorem fwL_iff {k : Nat} {R rs1 rs2 G : List WRow} (hG : GM posL (rs1 ++ rs2.map negR) G) {L : List (List Int)} (hL : ∀ p, p ∈ L ↔ IsPlace (IsPl R) k p) : fwL k G L = true ↔ FewAB k R rs1 rs2 := by
  unfold fwL FewAB
  rw [List.any_eq_true]
  constructor
  · rintro ⟨q, hq, h⟩
    obtain ⟨u, hu, h0⟩ := List.any_eq_true.mp h
    obtain ⟨j, hj, rfl⟩ := List.mem_map.mp hu
    obtain ⟨n, hn, rfl⟩ := rngI_mem.mp hj
    have h0 := of_decide_eq_true h0
    rw [gm_units hG] at h0
    exact ⟨q, (hL q).mp hq, n, hn, by omega⟩
  · rintro ⟨q, hq, n, hn, h⟩
    refine ⟨q, (hL q).mpr hq, List.any_eq_true.mpr ⟨_, List.mem_map.mpr ⟨(n : Int), rngI_mem.mpr ⟨n, hn, rfl⟩, rfl⟩, decide_eq_true ?_⟩⟩
    rw [gm_units hG]
    omega
theorem mrL_iff {k : Nat} {R rs1 rs2 G : List WRow} (hG : GM posL (rs1 ++ rs2.map negR) G) {L : List (List Int)} (hL : ∀ p, p ∈ L ↔ IsPlace (IsPl R) k p) : mrL k G L = true ↔ FewAB k R rs2 rs1 := by
  unfold mrL FewAB
  rw [List.any_eq_true]
  constructor
  · rintro ⟨q, hq, h⟩
    obtain ⟨u, hu, h0⟩ := List.any_eq_true.mp h
    obtain ⟨j, hj, rfl⟩ := List.mem_map.mp hu
    obtain ⟨n, hn, rfl⟩ := rngI_mem.mp hj
    have h0 := of_decide_eq_true h0
    rw [gm_units hG] at h0
    exact ⟨q, (hL q).mp hq, n, hn, by omega⟩
  · rintro ⟨q, hq, n, hn, h⟩
    refine ⟨q, (hL q).mpr hq, List.any_eq_true.mpr ⟨_, List.mem_map.mpr ⟨(n : Int), rngI_mem.mpr ⟨n, hn, rfl⟩, rfl⟩, decide_eq_true ?_⟩⟩
    rw [gm_units hG]
    omega
theorem least_any {l : List Int} {m : Int} (h1 : m ∈ l) (h2 : ∀ y, y ∈ l → m ≤ y) : (l.any fun u => decide (u < 0)) = decide (m < 0) := by
  by_cases h : m < 0
  · rw [decide_eq_true h]
    exact List.any_eq_true.mpr ⟨m, h1, decide_eq_true h⟩
  · rw [decide_eq_false h, List.any_eq_false]
    intro u hu z
    have := h2 u hu
    have := of_decide_eq_true z
    omega
theorem most_any {l : List Int} {m : Int} (h1 : m ∈ l) (h2 : ∀ y, y ∈ l → y ≤ m) : (l.any fun u => decide (0 < u)) = decide (0 < m) := by
  by_cases h : 0 < m
  · rw [decide_eq_true h]
    exact List.any_eq_true.mpr ⟨m, h1, decide_eq_true h⟩
  · rw [decide_eq_false h, List.any_eq_false]
    intro u hu z
    have := h2 u hu
    have := of_decide_eq_true z
    omega
theorem any_snoc {α : Type} (f : α → Bool) (l : List α) (x : α) : (l ++ [x]).any f = (l.any f || f x) := by simp
theorem red_rows {k : Nat} {s : Int} {rs : List WRow} {out : List Row} (hs : 0 < s) (hs2 : s ≤ 1000) (h : IsMerge (rs.map (redW s)) out) (ho : ∀ r ∈ rs, LOk k 100 r) : ∀ r ∈ out, RedRow k s r := by
  refine merge_red h fun r hr => ?_
  obtain ⟨r0, h0, rfl⟩ := List.mem_map.mp hr
  refine ⟨(List.length_map _).trans (ho r0 h0).len, fun p hp => ?_⟩
  obtain ⟨n, hn, rfl⟩ := List.mem_map.mp hp
  have := (ho r0 h0).ok n hn
  obtain ⟨a1, a2, a3, a4, a5, a6⟩ := redS_ok hs hs2 this.1 (by omega)
  exact ⟨a1, a3, by omega, a6, a5⟩
structure LawG (P : Program) (w : World) (K : PySem.W.Frag) (mg : Str → Option Value) (base : Heap) (C CL CR CU c Pt : Addr) : Prop where
  pen : Std P w K mg base 1 "_law_pen" ["_law_script"] (fsPen K)
  draw : GDraw P w K mg base
  scale : Std P w K mg base 3 "_law_scale" ["_law_pen_here"] fsScaleL
  two : Std P w K mg base 6 "_law_two" ["_law_pen_here", "_law_kinds", "_law_scale_here"] fsTwo
  diff : Std P w K mg base 2 "_law_difference" ["_law_one", "_law_other"] fsDiff
  places : Std P w K mg base 3 "_law_cell_places" ["_law_bids"] fsPlaces
  units : Std P w K mg base 2 "_law_units" ["_law_bids", "_law_prices"] fsLUnits
  made : Std P w K mg base 8 "_law_made" ["_law_pen_here", "_law_bids"] (fsMade C)
  takes : Std P w K mg base 9 "takes_no_less" ["one", "other"] (fsTakes C CL)
  isless : Std P w K mg base 5 "_law_is_less" ["_law_told", "_law_one", "_law_other"] (fsIsLess CL)
  less : StdMk P w K mg base 1 "Less" CL ["self", "prices", "kind"] (fsLess CL)
  bids : StdMk P w K mg base 6 "Bids" C ["self", "kinds", "rows"] (fsInit C)
  eq : EqC K CL
  cls : Cls K CL
  n1 : NoAttr K CL "prices"
  n2 : NoAttr K CL "kind"
  lam : LamG P w K mg base C CR CU c Pt
section
variable {P : Program} {w : World} {K : PySem.W.Frag} {mg : Str → Option Value} {base : Heap} {f : Addr} {fd : FuncData} {C CL CR CU c Pt : Addr}
theorem law_body (G : LawG P w K mg base C CL CR CU c Pt) (B : Bn mg) (A : Around) (outer : List Env) (s : Shared) (H : Hp) (E : XK) (hr : Room 9 (A.deeper (envOfC "law" (defScope sLaw) s.heap.objs.size f (.ref c)))) (cells : List Int) (hcl : cells.length ≤ 1000) :
    DSsU (cxOf CX0 P w K mg base nLaw "law" (defScope sLaw) f (.ref c) A outer s H E).nox (defBody sLaw) (startD nLaw [scrD K cells]) [(Pt, .any (.tbl #[]))] { nx := fun _ _ => False, rt := fun _ _ => False } := by
  have hN := scLaw.nd
  have hu1 := room1 hr
  refine u_cons ?_
  refine ds_st hN rfl (.inl rfl) rfl (.inr rfl) ?_
  refine de_c0 G.pen hr (by decide) rfl (by decide) rfl rfl ?_
  repeat walk_at "e"
  refine ⟨cells, rfl, hcl, rfl, fun pp m0 hp0 => ?_⟩
  refine u_cons ?_
  refine ds_par rfl hN (ixOf_at rfl) (ixOf_at rfl) (by decide) rfl rfl rfl rfl ?_
  walk_at "e"
  refine de_op op_add ?_
  repeat walk_at "e"
  refine de_cO G.draw hr (by decide) rfl (by decide) rfl rfl ?_
  repeat walk_at "e"
  refine ⟨[(pp, m0)], [(Pt, .any (.tbl #[]))], List.Perm.refl _, pp, m0, _, 999999, rfl, by decide, by decide, rfl, hp0, fun k0 m1 k00 k01 hp1 => ?_⟩
  obtain ⟨k1, rfl⟩ := Int.eq_ofNat_of_zero_le k00
  refine rd_I0 ?_
  have ek : (1 + (k1 : Int)) = ((k1 + 1 : Nat) : Int) := by omega
  rw [ek]
  have hk1 : 1 ≤ k1 + 1 := by omega
  have hk3 : k1 + 1 ≤ 3 := by omega
  generalize k1 + 1 = k at hk1 hk3 ⊢
  walk_at "e"
  refine de_cO G.scale hr (by decide) rfl (by decide) rfl rfl ?_
  repeat walk_at "e"
  refine ⟨[(pp, m1)], [(Pt, .any (.tbl #[]))], List.Perm.refl _, pp, m1, 999998, rfl, rfl, hp1, fun sc m2 hsc hp2 => ?_⟩
  have hs0 : 0 < sc := by omega
  have hs10 : sc ≤ 10 := by omega
  repeat walk_at "e"
  refine ⟨_, _, rfl, ?_⟩
  refine u_cons ?_
  refine ds_asg (ts := [4, 5]) ?_ rfl rfl rfl
  refine de_cO G.two hr (by decide) rfl (by decide) rfl rfl ?_
  repeat walk_at "e"
  refine ⟨[(pp, m2)], [(Pt, .any (.tbl #[]))], List.Perm.refl _, pp, m2, k, sc, 999598, rfl, hk1, hk3, rfl, hp2, fun rs1 rs2 m3 htwo hp3 => ?_⟩
  repeat walk_at "e"
  refine u_cons ?_
  refine ds_st hN rfl (.inl rfl) rfl (.inr rfl) ?_
  refine de_fz (i := 0) ?_
  refine de_disp rfl rfl (by simp) (by decide) ?_
  refine de_str ?_
  refine de_v rfl (.inl rfl) (by decide) (by decide) rfl ?_
  refine de_str ?_
  refine de_v rfl (.inl rfl) (by decide) (by decide) rfl ?_
  refine de_str ?_
  refine de_op op_cat ?_
  walk_at "listof"
  walk_at "e"
  refine de_ixK hu1 (fun _ _ => rfl) ?_
  repeat walk_at "e"
  refine ⟨lawKs, _, .inr "rows", _, .inl rfl, rfl, lawL3, ?_⟩
  repeat walk_at "e"
  refine rc_lst sqd_l ?_
  walk_at "listof"
  walk_at "e"
  refine de_ixK hu1 (fun _ _ => rfl) ?_
  repeat walk_at "e"
  refine ⟨lawKs, _, .inr "rows", _, .inl rfl, rfl, lawL3, ?_⟩
  repeat walk_at "e"
  refine rc_lst sqd_l ?_
  have hfew := htwo.few
  have hlen8 : rs1.length + rs2.length ≤ 8 := hfew.1
  refine rd_cat (.inl rfl) (.inl rfl) (sz1000 (by rw [List.length_map, List.length_map]; omega)) ?_
  rw [← List.map_append]
  refine ⟨lawKs, rfl, by decide, rfl, Nat.le_of_ble_eq_true rfl, fun bp => ⟨bp, _, rfl, rfl, rfl, ?_⟩⟩
  refine u_cons ?_
  refine ds_par3 rfl hN (ixOf_at rfl) (ixOf_at rfl) (ixOf_at rfl) (by decide) (by decide) (by decide) rfl rfl rfl rfl rfl ?_
  walk_at "e"
  refine de_c0 G.diff hr (by decide) rfl (by decide) rfl rfl ?_
  repeat walk_at "e"
  refine ⟨k, sc, rs1, rs2, 8, rfl, hk1, hk3, by omega, by omega, htwo.o1, htwo.o2, rfl, fun gp hG => ?_⟩
  repeat walk_at "e"
  refine ⟨_, _, _, rfl, ?_⟩
  have hboth : ∀ r ∈ rs1 ++ rs2, LOk k 100 r := fun r h => (List.mem_append.mp h).elim (fun h => (htwo.o1 r h).mono (by decide)) fun h => (htwo.o2 r h).mono (by decide)
  have hgok : ∀ r ∈ gp, LOk k 100 r := hG.ok fun r h => by
    rcases List.mem_append.mp h with h | h
    · exact (htwo.o1 r h).mono (by decide)
    · obtain ⟨r0, h0, rfl⟩ := List.mem_map.mp h
      exact ⟨(htwo.o2 r0 h0).len, ((htwo.o2 r0 h0).mono (show (8 : Int) ≤ 100 by decide)).ok⟩
  have hgl : gp.length ≤ 50 := by
    have := hG.le
    rw [List.length_append, List.length_map] at this
    omega
  refine u_cons ?_
  refine ds_for .never rfl (by intro _; rfl) (ts := [10]) (di_lst ?_)
  refine de_c0 G.places hr (by decide) rfl (by decide) rfl rfl ?_
  repeat walk_at "e"
  refine ⟨k, sc, rs1 ++ rs2, rfl, hk1, hk3, by rw [List.length_append]; exact hfew, hboth, rfl, fun L hL => ?_⟩
  refine ⟨_, rfl, fun i ρ O => i ≤ L.length ∧ ∃ (o10 o11 : Option D), ρ = [some (scrD K cells), some (.raw (.ref pp)), some (.int (k : Int)), some (.int sc), some (lawD k sc rs1), some (lawD k sc rs2), some (lawD k sc (rs1 ++ rs2)), some (lawD k sc gp), some (.bl (fwL k gp (L.take i))), some (.bl (mrL k gp (L.take i))), o10, o11, none, none, none, none, none, none, none, none, none, none, none] ∧
    O = [(pp, m3), (Pt, .any (.tbl #[]))], ⟨Nat.zero_le _, _, _, rfl, rfl⟩, fun i d ρ O hd ⟨hi, o10, o11, e1, e2⟩ => ?_, fun ρ O ⟨hi, o10, o11, e1, e2⟩ => ?_⟩
  · subst e1 e2
    obtain ⟨q, hq, rfl⟩ := map_get hd
    obtain ⟨hlt, _⟩ := List.getElem?_eq_some_iff.mp hq
    have hpl := (hL q).mp (List.mem_of_getElem? hq)
    have htk : L.take (i + 1) = L.take i ++ [q] := by rw [List.take_add_one, hq]; rfl
    have hne : UL k gp q ≠ [] := by
      intro z
      have := congrArg List.length z
      unfold UL at this
      rw [List.length_map, rngI_len] at this
      simp at this
      omega
    repeat walk_at "e"
    refine de_c0 G.units hr (by decide) rfl (by decide) rfl rfl ?_
    repeat walk_at "e"
    refine ⟨k, sc, gp, q, bestL q, rfl, hk1, hk3, hgl, hgok, fun r hr => place_best hk1 hk3 hpl (hgok r hr).len, rfl, ?_⟩
    walk_at "e"
    refine ds_par rfl hN (ixOf_at rfl) (ixOf_at rfl) (by decide) rfl rfl rfl rfl ?_
    walk_at "e"
    refine DE.imp (post := fun d O' => d = .bl (fwL k gp (L.take (i + 1))) ∧ O' = [(pp, m3), (Pt, .any (.tbl #[]))]) ?_ (fun d O' ⟨z1, z2⟩ => ?_)
    · refine de_or ?_
      repeat walk_at "e"
      refine ⟨_, rfl, ?_⟩
      cases hf : fwL k gp (L.take i) with
      | true => exact iT rfl ⟨by unfold fwL at hf ⊢; rw [htk, any_snoc, hf]; rfl, rfl⟩
      | false =>
        refine iF rfl ?_
        repeat walk_at "e"
        refine de_cmpR op_lt (nomark _) ?_
        walk_at "min"
        repeat walk_at "e"
        refine rc_min sqd_l hne fun mn h1 h2 => ?_
        repeat walk_at "e"
        refine rd_B0 ⟨?_, rfl⟩
        unfold fwL at hf ⊢
        rw [htk, any_snoc, hf, least_any (l := UL k gp q) h1 h2]
        rfl
    subst z1 z2
    walk_at "e"
    refine DE.imp (post := fun d O' => d = .bl (mrL k gp (L.take (i + 1))) ∧ O' = [(pp, m3), (Pt, .any (.tbl #[]))]) ?_ (fun d O' ⟨z1, z2⟩ => ?_)
    · refine de_or ?_
      repeat walk_at "e"
      refine ⟨_, rfl, ?_⟩
      cases hf : mrL k gp (L.take i) with
      | true => exact iT rfl ⟨by unfold mrL at hf ⊢; rw [htk, any_snoc, hf]; rfl, rfl⟩
      | false =>
        refine iF rfl ?_
        repeat walk_at "e"
        refine de_cmpR op_gt (nomark _) ?_
        walk_at "max"
        repeat walk_at "e"
        refine rc_max sqd_l hne fun mn h1 h2 => ?_
        repeat walk_at "e"
        refine rd_B0 ⟨?_, rfl⟩
        unfold mrL at hf ⊢
        rw [htk, any_snoc, hf, most_any (l := UL k gp q) h1 h2]
        rfl
    subst z1 z2
    repeat walk_at "e"
    exact ⟨_, _, rfl, dss_nil ⟨hlt, _, _, rfl, rfl⟩⟩
  subst e1 e2
  rw [List.length_map, List.take_length]
  have hfw := fwL_iff (R := rs1 ++ rs2) hG hL
  have hmr := mrL_iff (R := rs1 ++ rs2) hG hL
  generalize fwL k gp L = fw at hfw ⊢
  generalize mrL k gp L = mr at hmr ⊢
  refine u_cons ?_
  refine ds_asg (ts := [12, 21]) ?_ rfl rfl rfl
  refine de_tup ?_
  walk_at "e"
  refine de_cO G.made hr (by decide) rfl (by decide) rfl rfl ?_
  repeat walk_at "e"
  refine ⟨[(pp, m3)], [(Pt, .any (.tbl #[]))], List.Perm.refl _, pp, m3, k, sc, rs1, 999478, rfl, hk1, hk3, hs0, by omega, by omega, fun r h => hboth r (List.mem_append_left _ h), rfl, hp3, fun out1 m4 hout1 hp4 => ?_⟩
  walk_at "e"
  refine de_cO G.made hr (by decide) rfl (by decide) rfl rfl ?_
  repeat walk_at "e"
  refine ⟨[(pp, m4)], [(Pt, .any (.tbl #[]))], List.Perm.refl _, pp, m4, k, sc, rs2, 999358, rfl, hk1, hk3, hs0, by omega, by omega, fun r h => hboth r (List.mem_append_right _ h), rfl, hp4, fun out2 m5 hout2 hp5 => ?_⟩
  repeat walk_at "e"
  refine ⟨sz rfl, ?_⟩
  repeat walk_at "e"
  have S1 : Side k sc rs1 out1 := ⟨htwo.p1, fun r h => hboth r (List.mem_append_left _ h), hout1⟩
  have S2 : Side k sc rs2 out2 := ⟨htwo.p2, fun r h => hboth r (List.mem_append_right _ h), hout2⟩
  refine u_cons ?_
  refine ds_for .never rfl (by intro _; rfl) (ts := [13, 14, 15, 16, 17]) (di_lst ?_)
  refine de_lst ?_
  repeat (first | walk_at "e" | refine ⟨sz rfl, ?_⟩)
  refine ⟨_, rfl, fun i ρ O => ∃ (o13 o14 o15 o16 o17 o18 : Option D), ρ = [some (scrD K cells), some (.raw (.ref pp)), some (.int (k : Int)), some (.int sc), some (lawD k sc rs1), some (lawD k sc rs2), some (lawD k sc (rs1 ++ rs2)), some (lawD k sc gp), some (.bl fw), some (.bl mr), o10, o11, some (bidsD C k out1), o13, o14, o15, o16, o17, o18, none, none, some (bidsD C k out2), none] ∧
    O = [(pp, m5), (Pt, .any (.tbl #[]))], ⟨_, _, _, _, _, _, rfl, rfl⟩, fun i d ρ O hd ⟨o13, o14, o15, o16, o17, o18, e1, e2⟩ => ?_, fun ρ O ⟨o13, o14, o15, o16, o17, o18, e1, e2⟩ => ?_⟩
  · subst e1 e2
    obtain ⟨rsA, rsB, outA, outB, fl, rfl, SA, SB, hR, hfl, hlen⟩ : ∃ (rsA rsB : List WRow) (outA outB : List Row) (fl : Bool), d = .tup [bidsD C k outA, bidsD C k outB, lawD k sc rsA, lawD k sc rsB, .bl fl] ∧ Side k sc rsA outA ∧ Side k sc rsB outB ∧ (∀ r, r ∈ rs1 ++ rs2 ↔ r ∈ rsA ∨ r ∈ rsB) ∧ (fl = true ↔ FewAB k (rs1 ++ rs2) rsA rsB) ∧ rsA.length + rsB.length ≤ 8 := by
      rcases i with _ | _ | i
      · cases hd
        exact ⟨rs1, rs2, out1, out2, fw, rfl, S1, S2, fun r => List.mem_append, hfw, hlen8⟩
      · cases hd
        exact ⟨rs2, rs1, out2, out1, mr, rfl, S2, S1, fun r => List.mem_append.trans or_comm, hmr, by omega⟩
      · cases hd
    have rA := red_rows hs0 (by omega) SA.mg SA.ok
    have rB := red_rows hs0 (by omega) SB.mg SB.ok
    have lA := merge_len SA.mg
    have lB := merge_len SB.mg
    rw [List.length_map] at lA lB
    repeat walk_at "e"
    refine de_c0 G.takes hr (by decide) rfl (by decide) rfl rfl ?_
    repeat walk_at "e"
    refine ⟨k, outA, outB, sc, rfl, hk1, hk3, hs0, by omega, by omega, rA, rB, rfl, fun t n1 gap T hn1 hgap => ⟨fun hall => ?_, fun cp st mn hc hst hpos hmem hmin hlt => ?_⟩⟩
    · have hno := dir_none hk1 hk3 hs0 SA SB T hn1 hgap hR hall
      have hf : fl = false := by
        cases fl with
        | false => rfl
        | true => exact absurd (hfl.mp rfl) hno
      subst hf
      walk_at "e"
      refine ds_if ?_
      refine dt_cmpR op_ne (nomark _) ?_
      repeat walk_at "e"
      refine de_cmpR op_notN (nomark _) ?_
      repeat walk_at "e"
      refine rd_notN (r := true) (fun I v n => decide_eq_true n) ?_
      refine rd_neB ⟨_, rfl, iF rfl ?_⟩
      repeat walk_at "e"
      walk_at "val"
      repeat walk_at "e"
      refine ⟨_, rfl, iF rfl (iF rfl ?_)⟩
      repeat walk_at "e"
      exact ⟨_, _, _, _, _, _, rfl, rfl⟩
    · obtain ⟨hfew2, hik, htok, htl, best, hb, hlt2⟩ := dir_less hk1 hk3 hs0 hs10 SA SB T hn1 hgap hR hc hst hpos hmem hlt
      have hf : fl = true := hfl.mpr hfew2
      subst hf
      have ep : (tryP cp st).map (fun n => redD n (8 * t)) = ((tryP cp st).map fun v => redP v (8 * t)).map pD := by rw [List.map_map]; rfl
      rw [ep]
      generalize (tryP cp st).map (fun v => redP v (8 * t)) = ps at htok htl hb ⊢
      generalize (gapU k t gap cp st).idxOf mn = ix at hik hlt2 ⊢
      walk_at "e"
      refine ds_if ?_
      refine dt_cmpR op_ne (nomark _) ?_
      repeat walk_at "e"
      refine de_cmpR op_notN (nomark _) ?_
      repeat walk_at "e"
      refine rd_notN (r := false) (fun I v n => notnon_ins n) ?_
      refine rd_neB ⟨_, rfl, iF rfl ?_⟩
      repeat walk_at "e"
      walk_at "val"
      repeat walk_at "e"
      refine ⟨_, rfl, iT rfl ?_⟩
      refine dw_and1 ?_
      refine dt_not ?_
      walk_at "val"
      refine de_c0 G.isless hr (by decide) rfl (by decide) rfl rfl ?_
      repeat walk_at "e"
      refine ⟨k, sc, rsA, rsB, ps, ix, best, rfl, hk1, hk3, hs0, hs10, by omega, by omega, SA.ok, SB.ok, htl, htok, hik, fun r hr => hb r ((hR r).mpr (.inl hr)), fun r hr => hb r ((hR r).mpr (.inr hr)), rfl, _, rfl, ?_⟩
      rw [decide_eq_true hlt2]
      refine iF rfl ?_
      repeat walk_at "e"
      exact ⟨_, _, _, _, _, _, rfl, rfl⟩
  subst e1 e2
  refine u_cons ?_
  refine ds_par rfl hN (ixOf_at rfl) (ixOf_at rfl) (by decide) rfl rfl rfl rfl ?_
  walk_at "e"
  refine de_make G.less hr (by decide) rfl (by decide) rfl rfl ?_
  repeat (first | walk_at "e" | refine ⟨sz rfl, ?_⟩)
  intro hp1
  refine ⟨hp1, _, _, rfl, rfl, rfl, ?_⟩
  walk_at "e"
  refine de_make G.less hr (by decide) rfl (by decide) rfl rfl ?_
  repeat (first | walk_at "e" | refine ⟨sz rfl, ?_⟩)
  intro hp2
  refine ⟨hp2, _, _, rfl, rfl, rfl, ?_⟩
  repeat walk_at "e"
  refine ⟨_, _, rfl, ?_⟩
  refine u_cons ?_
  refine ds_if ?_
  refine dt_w (dw_or ?_)
  refine dt_cmpR (op_neD (room64 hr)) (nomark _) ?_
  refine de_tup ?_
  walk_at "e"
  refine de_fld rfl ?_
  repeat walk_at "e"
  refine ⟨CL, ["prices", "kind"], [.tup [.tup [.int 1, .int 2]], .int 0], .tup [.tup [.int 1, .int 2]], .inr ⟨hp1, rfl, 1, rfl⟩, G.cls, G.n1, by kernel_rfl, ?_⟩
  walk_at "e"
  refine de_fld rfl ?_
  repeat walk_at "e"
  refine ⟨CL, ["prices", "kind"], [.tup [.tup [.int 1, .int 2]], .int 0], .int 0, .inr ⟨hp1, rfl, 1, rfl⟩, G.cls, G.n2, by kernel_rfl, ?_⟩
  repeat walk_at "e"
  refine ⟨sz rfl, ?_⟩
  repeat (first | walk_at "e" | refine ⟨sz rfl, ?_⟩)
  refine rd_neD rfl rfl (by kernel_rfl) (by kernel_rfl) ⟨_, rfl, iF (by kernel_rfl) ?_⟩
  refine dw_or1 ?_
  refine dt_cmpR (op_apart (C := CL) (Nat.lt_of_succ_lt hu1) G.eq) (nomark _) ?_
  repeat walk_at "e"
  refine rd_apart (i := 1) (j := 0) rfl rfl (by decide) ⟨_, rfl, iF rfl ?_⟩
  refine dss_nil ?_
  refine u_cons ?_
  refine ds_st hN rfl (.inr rfl) rfl (.inl rfl) ?_
  refine de_fz (i := 0) ?_
  refine de_make G.bids hr (by decide) rfl (by decide) rfl rfl ?_
  walk_at "e"
  refine de_op op_add ?_
  refine de_op op_mod ?_
  walk_at "intof"
  repeat walk_at "e"
  refine rc_int ?_
  repeat walk_at "e"
  refine rd_I (by decide) ?_
  repeat walk_at "e"
  refine rd_I0 ?_
  have ek3 : ((k : Int) % 3 + 1) = ((k % 3 + 1 : Nat) : Int) := by omega
  rw [ek3]
  walk_at "e"
  refine de_lst ?_
  repeat (first | walk_at "e" | refine ⟨sz rfl, ?_⟩)
  intro bq
  refine ⟨bq, k % 3 + 1, _, [], 1, rfl, .inl rfl, by omega, by omega, by decide, by decide, Nat.zero_le _, fun r h => (nomatch h), rfl, fun out3 hout3 => ⟨rfl, bq, _, rfl, rfl, rfl, ?_⟩⟩
  refine u_fault (l := 3) (c := c) (Pt := Pt) (i := 22) (j := 21) (k1 := ((k % 3 + 1 : Nat) : Int)) (k2 := (k : Int)) (r1 := [.tup (out3.map rowD)]) (r2 := [.tup (out2.map rowD)]) G.lam rfl (hr.mono (by decide)) rfl (LamX.lamS_by rfl) rfl rfl rfl (vis_free rfl) (vis_free rfl) (by decide) (by decide) (by decide) (by decide) rfl (fun _ _ _ _ _ => rfl) rfl rfl rfl rfl rfl (by omega)
end
end
end AB
set_option maxHeartbeats 0
namespace AB
open PySem PySem.Spec PyProof.Rows L2
theorem oexB_ok {K : PySem.W.Frag} {C : Addr} (h : oexB K C = true) : OexC K C := by
  unfold oexB at h
  obtain ⟨h1, h⟩ := He.ba h
  obtain ⟨h2, h⟩ := He.ba h
  obtain ⟨h3, h⟩ := He.ba h
  obtain ⟨h4, h5⟩ := He.ba h
  refine ⟨?_, of_decide_eq_true h2, of_decide_eq_true h3, of_decide_eq_true h4, h5⟩
  split at h1
  · rename_i dd cd sl ho
    split at h1
    · rename_i C1 bm k0 k1 k2 k3 n k5 hm hs
      obtain ⟨a1, h1⟩ := He.ba h1
      obtain ⟨a2, h1⟩ := He.ba h1
      obtain ⟨a3, h1⟩ := He.ba h1
      obtain ⟨a4, a5⟩ := He.ba h1
      have a1 := of_decide_eq_true a1
      have a2 := of_decide_eq_true a2
      subst a1 a2
      obtain ⟨nm, bs, mro, ns, qn, hd, sn, sub, ab, col, del⟩ := cd
      dsimp only at hm a3 a4
      subst hm a4
      have a3 : del = false := by simpa using a3
      subst a3
      have hsl : sl = #[k0, k1, k2, k3, some (.builtin "ValueError.__new__"), k5] := by
        obtain ⟨l⟩ := sl
        simp only at hs
        rw [hs]
      subst hsl
      exact ⟨nm, qn, ns, bs, bm, sn, sub, ab, col, dd, k0, k1, k2, k3, k5, ho, a5⟩
    · cases h1
  · cases h1
theorem baseB_ok {K : PySem.W.Frag} {B : Addr} (h : baseB K B = true) : BaseC K B := by
  obtain ⟨h1, h⟩ := He.ba h
  obtain ⟨h2, h3⟩ := He.ba h
  refine ⟨⟨h1, of_decide_eq_true h2⟩, ?_⟩
  cases e : PySem.W.findCls K (.ref B) (.type "type") "__init__" with
  | none => rw [e] at h3; cases h3
  | some r =>
    rw [e] at h3
    cases r with
    | get _ _ _ _ => cases h3
    | val v =>
      cases v with
      | builtin n =>
        have : n = "ValueError.__init__" := of_decide_eq_true h3
        rw [this]
      | _ => cases h3
theorem instB_ok {K : PySem.W.Frag} {C : Addr} (h : instB K C = true) (hc : Cls K C) : C8.InsC K C ∧ EqC K C := by
  obtain ⟨h1, h⟩ := He.ba h
  obtain ⟨h2, h⟩ := He.ba h
  obtain ⟨h3, h⟩ := He.ba h
  obtain ⟨h4, h⟩ := He.ba h
  obtain ⟨h5, h6⟩ := He.ba h
  exact ⟨⟨hc, of_decide_eq_true h1, of_decide_eq_true h2, of_decide_eq_true h3, of_decide_eq_true h4, of_decide_eq_true h5⟩, ⟨of_decide_eq_true h4, of_decide_eq_true h6⟩⟩
structure ExOk (K : PySem.W.Frag) : Prop where
  oex : OexC K (He.ga K "Unlike")
  base : BaseC K (He.ga K "BidError")
  xf : XfC K (He.ga K "Unlike")
  isc : C8.InsC K (He.ga K "Less")
  eq : EqC K (He.ga K "Less")
  sf : PySem.W.selfFirst K (He.ga K "Bids") = true
  uinit : PySem.W.findIn K (.ref (He.ga K "Unlike")) "__init__" = some (some (.ref (He.ma K (He.ga K "Unlike") "__init__")))
  ufun : PySem.W.typeIn K (.ref (He.ma K (He.ga K "Unlike") "__init__")) = some (.type "function")
theorem exB_ok {K : PySem.W.Frag} (h : exB K = true) (hc : Cls K (He.ga K "Less")) : ExOk K := by
  obtain ⟨h1, h⟩ := He.ba h
  obtain ⟨h2, h⟩ := He.ba h
  obtain ⟨h3, h⟩ := He.ba h
  obtain ⟨h4, h⟩ := He.ba h
  obtain ⟨h5, h⟩ := He.ba h
  obtain ⟨h6, h7⟩ := He.ba h
  obtain ⟨i1, i2⟩ := instB_ok h4 hc
  exact ⟨oexB_ok h1, baseB_ok h2, xfB_ok h3, i1, i2, h5, of_decide_eq_true h6, of_decide_eq_true h7⟩
section
variable {P : Program} {w : World} {K : PySem.W.Frag} {mg : Str → Option Value} {base : Heap}
theorem bn_of (X : K.In base) (Gm : base.Ns mainGlobals mg) (c : He.SaysD faL fnL K) : Bn mg := ⟨He.free_ok X Gm (c.fact 59 (f := .free "abs") rfl), He.free_ok X Gm (c.fact 60 (f := .free "isinstance") rfl), He.free_ok X Gm (c.fact 61 (f := .free "int") rfl), He.free_ok X Gm (c.fact 62 (f := .free "bool") rfl), He.free_ok X Gm (c.fact 63 (f := .free "tuple") rfl), He.free_ok X Gm (c.fact 64 (f := .free "list") rfl), He.free_ok X Gm (c.fact 65 (f := .free "len") rfl), He.free_ok X Gm (c.fact 66 (f := .free "range") rfl), He.free_ok X Gm (c.fact 67 (f := .free "all") rfl), He.free_ok X Gm (c.fact 68 (f := .free "any") rfl), He.free_ok X Gm (c.fact 69 (f := .free "zip") rfl), He.free_ok X Gm (c.fact 70 (f := .free "max") rfl), He.free_ok X Gm (c.fact 71 (f := .free "min") rfl), He.free_ok X Gm (c.fact 72 (f := .free "sorted") rfl), He.free_ok X Gm (c.fact 73 (f := .free "enumerate") rfl), He.free_ok X Gm (c.fact 74 (f := .free "dict") rfl)⟩
theorem m_is_whole (X : K.In base) (Gm : base.Ns mainGlobals mg) (c : He.SaysD faL fnL K) : ∃ fd, mg "is_whole" = some (.ref (He.ga K "is_whole")) ∧ PySem.W.keepIn K (.ref (He.ga K "is_whole")) = true ∧ Binds K fd ["value"] [] ∧ FnP K "is_whole" sIsWhole (He.ga K "is_whole") fd := by
  obtain ⟨fd, F0⟩ := c.def_ 0 (d := dFn "is_whole" "is_whole" (topS 9)) rfl
  have F : FnP K "is_whole" sIsWhole (He.ga K "is_whole") fd := F0
  exact ⟨fd, He.glo_ok X Gm (c.fact 0 (f := .glo "is_whole") rfl), F.kp, bindsP F (fun _ _ _ _ _ _ us hl => match us, hl with | [_], _ => rfl), F⟩
theorem m_is_ratio (X : K.In base) (Gm : base.Ns mainGlobals mg) (c : He.SaysD faL fnL K) : ∃ fd, mg "is_ratio" = some (.ref (He.ga K "is_ratio")) ∧ PySem.W.keepIn K (.ref (He.ga K "is_ratio")) = true ∧ Binds K fd ["value"] [] ∧ FnP K "is_ratio" sIsRatio (He.ga K "is_ratio") fd := by
  obtain ⟨fd, F0⟩ := c.def_ 1 (d := dFn "is_ratio" "is_ratio" (topS 10)) rfl
  have F : FnP K "is_ratio" sIsRatio (He.ga K "is_ratio") fd := F0
  exact ⟨fd, He.glo_ok X Gm (c.fact 1 (f := .glo "is_ratio") rfl), F.kp, bindsP F (fun _ _ _ _ _ _ us hl => match us, hl with | [_], _ => rfl), F⟩
theorem m_divisor (X : K.In base) (Gm : base.Ns mainGlobals mg) (c : He.SaysD faL fnL K) : ∃ fd, mg "divisor" = some (.ref (He.ga K "divisor")) ∧ PySem.W.keepIn K (.ref (He.ga K "divisor")) = true ∧ Binds K fd ["one", "other"] [] ∧ FnP K "divisor" sDivisor (He.ga K "divisor") fd := by
  obtain ⟨fd, F0⟩ := c.def_ 2 (d := dFn "divisor" "divisor" (topS 11)) rfl
  have F : FnP K "divisor" sDivisor (He.ga K "divisor") fd := F0
  exact ⟨fd, He.glo_ok X Gm (c.fact 2 (f := .glo "divisor") rfl), F.kp, bindsP F (fun _ _ _ _ _ _ us hl => match us, hl with | [_, _], _ => rfl), F⟩
theorem m_lowest (X : K.In base) (Gm : base.Ns mainGlobals mg) (c : He.SaysD faL fnL K) : ∃ fd, mg "lowest" = some (.ref (He.ga K "lowest")) ∧ PySem.W.keepIn K (.ref (He.ga K "lowest")) = true ∧ Binds K fd ["top", "bottom"] [] ∧ FnP K "lowest" sLowest (He.ga K "lowest") fd := by
  obtain ⟨fd, F0⟩ := c.def_ 3 (d := dFn "lowest" "lowest" (topS 12)) rfl
  have F : FnP K "lowest" sLowest (He.ga K "lowest") fd := F0
  exact ⟨fd, He.glo_ok X Gm (c.fact 3 (f := .glo "lowest") rfl), F.kp, bindsP F (fun _ _ _ _ _ _ us hl => match us, hl with | [_, _], _ => rfl), F⟩
theorem m_told (X : K.In base) (Gm : base.Ns mainGlobals mg) (c : He.SaysD faL fnL K) : ∃ fd, mg "told" = some (.ref (He.ga K "told")) ∧ PySem.W.keepIn K (.ref (He.ga K "told")) = true ∧ Binds K fd ["value", "what"] [] ∧ FnP K "told" sTold (He.ga K "told") fd := by
  obtain ⟨fd, F0⟩ := c.def_ 4 (d := dFn "told" "told" (topS 13)) rfl
  have F : FnP K "told" sTold (He.ga K "told") fd := F0
  exact ⟨fd, He.glo_ok X Gm (c.fact 4 (f := .glo "told") rfl), F.kp, bindsP F (fun _ _ _ _ _ _ us hl => match us, hl with | [_, _], _ => rfl), F⟩
theorem m_bottom_of (X : K.In base) (Gm : base.Ns mainGlobals mg) (c : He.SaysD faL fnL K) : ∃ fd, mg "bottom_of" = some (.ref (He.ga K "bottom_of")) ∧ PySem.W.keepIn K (.ref (He.ga K "bottom_of")) = true ∧ Binds K fd ["ratios"] [] ∧ FnP K "bottom_of" sBottom (He.ga K "bottom_of") fd := by
  obtain ⟨fd, F0⟩ := c.def_ 5 (d := dFn "bottom_of" "bottom_of" (topS 14)) rfl
  have F : FnP K "bottom_of" sBottom (He.ga K "bottom_of") fd := F0
  exact ⟨fd, He.glo_ok X Gm (c.fact 5 (f := .glo "bottom_of") rfl), F.kp, bindsP F (fun _ _ _ _ _ _ us hl => match us, hl with | [_], _ => rfl), F⟩
theorem m_need_kinds_likeness (X : K.In base) (Gm : base.Ns mainGlobals mg) (c : He.SaysD faL fnL K) : ∃ fd, mg "need_kinds_likeness" = some (.ref (He.ga K "need_kinds_likeness")) ∧ PySem.W.keepIn K (.ref (He.ga K "need_kinds_likeness")) = true ∧ Binds K fd ["one", "other"] [] ∧ FnP K "need_kinds" sNeedL (He.ga K "need_kinds_likeness") fd := by
  obtain ⟨fd, F0⟩ := c.def_ 6 (d := dFn "need_kinds_likeness" "need_kinds" (topS 18)) rfl
  have F : FnP K "need_kinds" sNeedL (He.ga K "need_kinds_likeness") fd := F0
  exact ⟨fd, He.glo_ok X Gm (c.fact 6 (f := .glo "need_kinds_likeness") rfl), F.kp, bindsP F (fun _ _ _ _ _ _ us hl => match us, hl with | [_, _], _ => rfl), F⟩
theorem m_common_divisor (X : K.In base) (Gm : base.Ns mainGlobals mg) (c : He.SaysD faL fnL K) : ∃ fd, mg "common_divisor" = some (.ref (He.ga K "common_divisor")) ∧ PySem.W.keepIn K (.ref (He.ga K "common_divisor")) = true ∧ Binds K fd ["one", "other"] [] ∧ FnP K "common_divisor" sCommon (He.ga K "common_divisor") fd := by
  obtain ⟨fd, F0⟩ := c.def_ 7 (d := dFn "common_divisor" "common_divisor" (topS 20)) rfl
  have F : FnP K "common_divisor" sCommon (He.ga K "common_divisor") fd := F0
  exact ⟨fd, He.glo_ok X Gm (c.fact 7 (f := .glo "common_divisor") rfl), F.kp, bindsP F (fun _ _ _ _ _ _ us hl => match us, hl with | [_, _], _ => rfl), F⟩
theorem m_scale_of (X : K.In base) (Gm : base.Ns mainGlobals mg) (c : He.SaysD faL fnL K) : ∃ fd, mg "scale_of" = some (.ref (He.ga K "scale_of")) ∧ PySem.W.keepIn K (.ref (He.ga K "scale_of")) = true ∧ Binds K fd ["rows"] [] ∧ FnP K "scale_of" sScale (He.ga K "scale_of") fd := by
  obtain ⟨fd, F0⟩ := c.def_ 8 (d := dFn "scale_of" "scale_of" (topS 21)) rfl
  have F : FnP K "scale_of" sScale (He.ga K "scale_of") fd := F0
  exact ⟨fd, He.glo_ok X Gm (c.fact 8 (f := .glo "scale_of") rfl), F.kp, bindsP F (fun _ _ _ _ _ _ us hl => match us, hl with | [_], _ => rfl), F⟩
theorem m_whole_rows (X : K.In base) (Gm : base.Ns mainGlobals mg) (c : He.SaysD faL fnL K) : ∃ fd, mg "whole_rows" = some (.ref (He.ga K "whole_rows")) ∧ PySem.W.keepIn K (.ref (He.ga K "whole_rows")) = true ∧ Binds K fd ["rows", "scale"] [] ∧ FnP K "whole_rows" sWhole (He.ga K "whole_rows") fd := by
  obtain ⟨fd, F0⟩ := c.def_ 9 (d := dFn "whole_rows" "whole_rows" (topS 22)) rfl
  have F : FnP K "whole_rows" sWhole (He.ga K "whole_rows") fd := F0
  exact ⟨fd, He.glo_ok X Gm (c.fact 9 (f := .glo "whole_rows") rfl), F.kp, bindsP F (fun _ _ _ _ _ _ us hl => match us, hl with | [_, _], _ => rfl), F⟩
theorem m_price_tuple (X : K.In base) (Gm : base.Ns mainGlobals mg) (c : He.SaysD faL fnL K) : ∃ fd, mg "price_tuple" = some (.ref (He.ga K "price_tuple")) ∧ PySem.W.keepIn K (.ref (He.ga K "price_tuple")) = true ∧ Binds K fd ["prices", "scale"] [] ∧ FnP K "price_tuple" sPriceTup (He.ga K "price_tuple") fd := by
  obtain ⟨fd, F0⟩ := c.def_ 10 (d := dFn "price_tuple" "price_tuple" (topS 23)) rfl
  have F : FnP K "price_tuple" sPriceTup (He.ga K "price_tuple") fd := F0
  exact ⟨fd, He.glo_ok X Gm (c.fact 10 (f := .glo "price_tuple") rfl), F.kp, bindsP F (fun _ _ _ _ _ _ us hl => match us, hl with | [_, _], _ => rfl), F⟩
theorem m_stops_of (X : K.In base) (Gm : base.Ns mainGlobals mg) (c : He.SaysD faL fnL K) : ∃ fd, mg "stops_of" = some (.ref (He.ga K "stops_of")) ∧ PySem.W.keepIn K (.ref (He.ga K "stops_of")) = true ∧ Binds K fd ["rows", "kinds"] [] ∧ FnP K "stops_of" sStops (He.ga K "stops_of") fd := by
  obtain ⟨fd, F0⟩ := c.def_ 11 (d := dFn "stops_of" "stops_of" (topS 24)) rfl
  have F : FnP K "stops_of" sStops (He.ga K "stops_of") fd := F0
  exact ⟨fd, He.glo_ok X Gm (c.fact 11 (f := .glo "stops_of") rfl), F.kp, bindsP F (fun _ _ _ _ _ _ us hl => match us, hl with | [_, _], _ => rfl), F⟩
theorem m_orders_of (X : K.In base) (Gm : base.Ns mainGlobals mg) (c : He.SaysD faL fnL K) : ∃ fd, mg "orders_of" = some (.ref (He.ga K "orders_of")) ∧ PySem.W.keepIn K (.ref (He.ga K "orders_of")) = true ∧ Binds K fd ["some"] [] ∧ FnP K "orders_of" sOrders (He.ga K "orders_of") fd := by
  obtain ⟨fd, F0⟩ := c.def_ 12 (d := dFn "orders_of" "orders_of" (topS 25)) rfl
  have F : FnP K "orders_of" sOrders (He.ga K "orders_of") fd := F0
  exact ⟨fd, He.glo_ok X Gm (c.fact 12 (f := .glo "orders_of") rfl), F.kp, bindsP F (fun _ _ _ _ _ _ us hl => match us, hl with | [_], _ => rfl), F⟩
theorem m_corners_of (X : K.In base) (Gm : base.Ns mainGlobals mg) (c : He.SaysD faL fnL K) : ∃ fd, mg "corners_of" = some (.ref (He.ga K "corners_of")) ∧ PySem.W.keepIn K (.ref (He.ga K "corners_of")) = true ∧ Binds K fd ["rows", "kinds"] [] ∧ FnP K "corners_of" sCorners (He.ga K "corners_of") fd := by
  obtain ⟨fd, F0⟩ := c.def_ 13 (d := dFn "corners_of" "corners_of" (topS 26)) rfl
  have F : FnP K "corners_of" sCorners (He.ga K "corners_of") fd := F0
  exact ⟨fd, He.glo_ok X Gm (c.fact 13 (f := .glo "corners_of") rfl), F.kp, bindsP F (fun _ _ _ _ _ _ us hl => match us, hl with | [_, _], _ => rfl), F⟩
theorem m_offsets_of (X : K.In base) (Gm : base.Ns mainGlobals mg) (c : He.SaysD faL fnL K) : ∃ fd, mg "offsets_of" = some (.ref (He.ga K "offsets_of")) ∧ PySem.W.keepIn K (.ref (He.ga K "offsets_of")) = true ∧ Binds K fd ["kinds"] [] ∧ FnP K "offsets_of" sOffsets (He.ga K "offsets_of") fd := by
  obtain ⟨fd, F0⟩ := c.def_ 14 (d := dFn "offsets_of" "offsets_of" (topS 27)) rfl
  have F : FnP K "offsets_of" sOffsets (He.ga K "offsets_of") fd := F0
  exact ⟨fd, He.glo_ok X Gm (c.fact 14 (f := .glo "offsets_of") rfl), F.kp, bindsP F (fun _ _ _ _ _ _ us hl => match us, hl with | [_], _ => rfl), F⟩
theorem m_units_taken (X : K.In base) (Gm : base.Ns mainGlobals mg) (c : He.SaysD faL fnL K) : ∃ fd, mg "units_taken" = some (.ref (He.ga K "units_taken")) ∧ PySem.W.keepIn K (.ref (He.ga K "units_taken")) = true ∧ Binds K fd ["rows", "prices", "by", "kinds"] [] ∧ FnP K "units_taken" sUnits (He.ga K "units_taken") fd := by
  obtain ⟨fd, F0⟩ := c.def_ 15 (d := dFn "units_taken" "units_taken" (topS 28)) rfl
  have F : FnP K "units_taken" sUnits (He.ga K "units_taken") fd := F0
  exact ⟨fd, He.glo_ok X Gm (c.fact 15 (f := .glo "units_taken") rfl), F.kp, bindsP F (fun _ _ _ _ _ _ us hl => match us, hl with | [_, _, _, _], _ => rfl), F⟩
theorem m_takes_no_less (X : K.In base) (Gm : base.Ns mainGlobals mg) (c : He.SaysD faL fnL K) : ∃ fd, mg "takes_no_less" = some (.ref (He.ga K "takes_no_less")) ∧ PySem.W.keepIn K (.ref (He.ga K "takes_no_less")) = true ∧ Binds K fd ["one", "other"] [] ∧ FnP K "takes_no_less" sTakes (He.ga K "takes_no_less") fd := by
  obtain ⟨fd, F0⟩ := c.def_ 16 (d := dFn "takes_no_less" "takes_no_less" (topS 29)) rfl
  have F : FnP K "takes_no_less" sTakes (He.ga K "takes_no_less") fd := F0
  exact ⟨fd, He.glo_ok X Gm (c.fact 16 (f := .glo "takes_no_less") rfl), F.kp, bindsP F (fun _ _ _ _ _ _ us hl => match us, hl with | [_, _], _ => rfl), F⟩
theorem m_need_kinds_bids (X : K.In base) (Gm : base.Ns mainGlobals mg) (c : He.SaysD faL fnL K) : ∃ fd, mg "need_kinds_bids" = some (.ref (He.ga K "need_kinds_bids")) ∧ PySem.W.keepIn K (.ref (He.ga K "need_kinds_bids")) = true ∧ Binds K fd ["kinds"] [] ∧ FnP K "need_kinds" sNeedB (He.ga K "need_kinds_bids") fd := by
  obtain ⟨fd, F0⟩ := c.def_ 17 (d := dFn "need_kinds_bids" "need_kinds" (topS 32)) rfl
  have F : FnP K "need_kinds" sNeedB (He.ga K "need_kinds_bids") fd := F0
  exact ⟨fd, He.glo_ok X Gm (c.fact 17 (f := .glo "need_kinds_bids") rfl), F.kp, bindsP F (fun _ _ _ _ _ _ us hl => match us, hl with | [_], _ => rfl), F⟩
theorem m_is_price_row (X : K.In base) (Gm : base.Ns mainGlobals mg) (c : He.SaysD faL fnL K) : ∃ fd, mg "is_price_row" = some (.ref (He.ga K "is_price_row")) ∧ PySem.W.keepIn K (.ref (He.ga K "is_price_row")) = true ∧ Binds K fd ["value", "kinds"] [] ∧ FnP K "is_price_row" sPriceRow (He.ga K "is_price_row") fd := by
  obtain ⟨fd, F0⟩ := c.def_ 18 (d := dFn "is_price_row" "is_price_row" (topS 34)) rfl
  have F : FnP K "is_price_row" sPriceRow (He.ga K "is_price_row") fd := F0
  exact ⟨fd, He.glo_ok X Gm (c.fact 18 (f := .glo "is_price_row") rfl), F.kp, bindsP F (fun _ _ _ _ _ _ us hl => match us, hl with | [_, _], _ => rfl), F⟩
theorem m_is_bid (X : K.In base) (Gm : base.Ns mainGlobals mg) (c : He.SaysD faL fnL K) : ∃ fd, mg "is_bid" = some (.ref (He.ga K "is_bid")) ∧ PySem.W.keepIn K (.ref (He.ga K "is_bid")) = true ∧ Binds K fd ["value", "kinds"] [] ∧ FnP K "is_bid" sIsBid (He.ga K "is_bid") fd := by
  obtain ⟨fd, F0⟩ := c.def_ 19 (d := dFn "is_bid" "is_bid" (topS 35)) rfl
  have F : FnP K "is_bid" sIsBid (He.ga K "is_bid") fd := F0
  exact ⟨fd, He.glo_ok X Gm (c.fact 19 (f := .glo "is_bid") rfl), F.kp, bindsP F (fun _ _ _ _ _ _ us hl => match us, hl with | [_, _], _ => rfl), F⟩
theorem m_plain_rows (X : K.In base) (Gm : base.Ns mainGlobals mg) (c : He.SaysD faL fnL K) : ∃ fd, mg "plain_rows" = some (.ref (He.ga K "plain_rows")) ∧ PySem.W.keepIn K (.ref (He.ga K "plain_rows")) = true ∧ Binds K fd ["rows"] [] ∧ FnP K "plain_rows" sPlain (He.ga K "plain_rows") fd := by
  obtain ⟨fd, F0⟩ := c.def_ 20 (d := dFn "plain_rows" "plain_rows" (topS 36)) rfl
  have F : FnP K "plain_rows" sPlain (He.ga K "plain_rows") fd := F0
  exact ⟨fd, He.glo_ok X Gm (c.fact 20 (f := .glo "plain_rows") rfl), F.kp, bindsP F (fun _ _ _ _ _ _ us hl => match us, hl with | [_], _ => rfl), F⟩
theorem m__law_pen (X : K.In base) (Gm : base.Ns mainGlobals mg) (c : He.SaysD faL fnL K) : ∃ fd, mg "_law_pen" = some (.ref (He.ga K "_law_pen")) ∧ PySem.W.keepIn K (.ref (He.ga K "_law_pen")) = true ∧ Binds K fd ["_law_script"] [] ∧ FnP K "_law_pen" sPen (He.ga K "_law_pen") fd := by
  obtain ⟨fd, F0⟩ := c.def_ 21 (d := dFn "_law_pen" "_law_pen" (topS 39)) rfl
  have F : FnP K "_law_pen" sPen (He.ga K "_law_pen") fd := F0
  exact ⟨fd, He.glo_ok X Gm (c.fact 21 (f := .glo "_law_pen") rfl), F.kp, bindsP F (fun _ _ _ _ _ _ us hl => match us, hl with | [_], _ => rfl), F⟩
theorem m__law_draw (X : K.In base) (Gm : base.Ns mainGlobals mg) (c : He.SaysD faL fnL K) : ∃ fd, mg "_law_draw" = some (.ref (He.ga K "_law_draw")) ∧ PySem.W.keepIn K (.ref (He.ga K "_law_draw")) = true ∧ Binds K fd ["_law_pen_here", "_law_many"] [] ∧ FnP K "_law_draw" sDraw (He.ga K "_law_draw") fd := by
  obtain ⟨fd, F0⟩ := c.def_ 22 (d := dFn "_law_draw" "_law_draw" (topS 40)) rfl
  have F : FnP K "_law_draw" sDraw (He.ga K "_law_draw") fd := F0
  exact ⟨fd, He.glo_ok X Gm (c.fact 22 (f := .glo "_law_draw") rfl), F.kp, bindsP F (fun _ _ _ _ _ _ us hl => match us, hl with | [_, _], _ => rfl), F⟩
theorem m__law_pick (X : K.In base) (Gm : base.Ns mainGlobals mg) (c : He.SaysD faL fnL K) : ∃ fd, mg "_law_pick" = some (.ref (He.ga K "_law_pick")) ∧ PySem.W.keepIn K (.ref (He.ga K "_law_pick")) = true ∧ Binds K fd ["_law_pen_here", "_law_some"] [] ∧ FnP K "_law_pick" sPick (He.ga K "_law_pick") fd := by
  obtain ⟨fd, F0⟩ := c.def_ 23 (d := dFn "_law_pick" "_law_pick" (topS 41)) rfl
  have F : FnP K "_law_pick" sPick (He.ga K "_law_pick") fd := F0
  exact ⟨fd, He.glo_ok X Gm (c.fact 23 (f := .glo "_law_pick") rfl), F.kp, bindsP F (fun _ _ _ _ _ _ us hl => match us, hl with | [_, _], _ => rfl), F⟩
theorem m__law_is_whole (X : K.In base) (Gm : base.Ns mainGlobals mg) (c : He.SaysD faL fnL K) : ∃ fd, mg "_law_is_whole" = some (.ref (He.ga K "_law_is_whole")) ∧ PySem.W.keepIn K (.ref (He.ga K "_law_is_whole")) = true ∧ Binds K fd ["_law_value"] [] ∧ FnP K "_law_is_whole" sIsWholeL (He.ga K "_law_is_whole") fd := by
  obtain ⟨fd, F0⟩ := c.def_ 24 (d := dFn "_law_is_whole" "_law_is_whole" (topS 42)) rfl
  have F : FnP K "_law_is_whole" sIsWholeL (He.ga K "_law_is_whole") fd := F0
  exact ⟨fd, He.glo_ok X Gm (c.fact 24 (f := .glo "_law_is_whole") rfl), F.kp, bindsP F (fun _ _ _ _ _ _ us hl => match us, hl with | [_], _ => rfl), F⟩
theorem m__law_gcd (X : K.In base) (Gm : base.Ns mainGlobals mg) (c : He.SaysD faL fnL K) : ∃ fd, mg "_law_gcd" = some (.ref (He.ga K "_law_gcd")) ∧ PySem.W.keepIn K (.ref (He.ga K "_law_gcd")) = true ∧ Binds K fd ["_law_one", "_law_two_here"] [] ∧ FnP K "_law_gcd" sGcd (He.ga K "_law_gcd") fd := by
  obtain ⟨fd, F0⟩ := c.def_ 25 (d := dFn "_law_gcd" "_law_gcd" (topS 43)) rfl
  have F : FnP K "_law_gcd" sGcd (He.ga K "_law_gcd") fd := F0
  exact ⟨fd, He.glo_ok X Gm (c.fact 25 (f := .glo "_law_gcd") rfl), F.kp, bindsP F (fun _ _ _ _ _ _ us hl => match us, hl with | [_, _], _ => rfl), F⟩
theorem m__law_q (X : K.In base) (Gm : base.Ns mainGlobals mg) (c : He.SaysD faL fnL K) : ∃ fd, mg "_law_q" = some (.ref (He.ga K "_law_q")) ∧ PySem.W.keepIn K (.ref (He.ga K "_law_q")) = true ∧ Binds K fd ["_law_top", "_law_bottom"] [] ∧ FnP K "_law_q" sQ (He.ga K "_law_q") fd := by
  obtain ⟨fd, F0⟩ := c.def_ 26 (d := dFn "_law_q" "_law_q" (topS 44)) rfl
  have F : FnP K "_law_q" sQ (He.ga K "_law_q") fd := F0
  exact ⟨fd, He.glo_ok X Gm (c.fact 26 (f := .glo "_law_q") rfl), F.kp, bindsP F (fun _ _ _ _ _ _ us hl => match us, hl with | [_, _], _ => rfl), F⟩
theorem m__law_minus (X : K.In base) (Gm : base.Ns mainGlobals mg) (c : He.SaysD faL fnL K) : ∃ fd, mg "_law_minus" = some (.ref (He.ga K "_law_minus")) ∧ PySem.W.keepIn K (.ref (He.ga K "_law_minus")) = true ∧ Binds K fd ["_law_one", "_law_two_here"] [] ∧ FnP K "_law_minus" sMinus (He.ga K "_law_minus") fd := by
  obtain ⟨fd, F0⟩ := c.def_ 27 (d := dFn "_law_minus" "_law_minus" (topS 45)) rfl
  have F : FnP K "_law_minus" sMinus (He.ga K "_law_minus") fd := F0
  exact ⟨fd, He.glo_ok X Gm (c.fact 27 (f := .glo "_law_minus") rfl), F.kp, bindsP F (fun _ _ _ _ _ _ us hl => match us, hl with | [_, _], _ => rfl), F⟩
theorem m__law_less (X : K.In base) (Gm : base.Ns mainGlobals mg) (c : He.SaysD faL fnL K) : ∃ fd, mg "_law_less" = some (.ref (He.ga K "_law_less")) ∧ PySem.W.keepIn K (.ref (He.ga K "_law_less")) = true ∧ Binds K fd ["_law_one", "_law_two_here"] [] ∧ FnP K "_law_less" sLt (He.ga K "_law_less") fd := by
  obtain ⟨fd, F0⟩ := c.def_ 28 (d := dFn "_law_less" "_law_less" (topS 46)) rfl
  have F : FnP K "_law_less" sLt (He.ga K "_law_less") fd := F0
  exact ⟨fd, He.glo_ok X Gm (c.fact 28 (f := .glo "_law_less") rfl), F.kp, bindsP F (fun _ _ _ _ _ _ us hl => match us, hl with | [_, _], _ => rfl), F⟩
theorem m__law_is_ratio (X : K.In base) (Gm : base.Ns mainGlobals mg) (c : He.SaysD faL fnL K) : ∃ fd, mg "_law_is_ratio" = some (.ref (He.ga K "_law_is_ratio")) ∧ PySem.W.keepIn K (.ref (He.ga K "_law_is_ratio")) = true ∧ Binds K fd ["_law_value"] [] ∧ FnP K "_law_is_ratio" sIsRatL (He.ga K "_law_is_ratio") fd := by
  obtain ⟨fd, F0⟩ := c.def_ 29 (d := dFn "_law_is_ratio" "_law_is_ratio" (topS 47)) rfl
  have F : FnP K "_law_is_ratio" sIsRatL (He.ga K "_law_is_ratio") fd := F0
  exact ⟨fd, He.glo_ok X Gm (c.fact 29 (f := .glo "_law_is_ratio") rfl), F.kp, bindsP F (fun _ _ _ _ _ _ us hl => match us, hl with | [_], _ => rfl), F⟩
theorem m__law_are_ratios (X : K.In base) (Gm : base.Ns mainGlobals mg) (c : He.SaysD faL fnL K) : ∃ fd, mg "_law_are_ratios" = some (.ref (He.ga K "_law_are_ratios")) ∧ PySem.W.keepIn K (.ref (He.ga K "_law_are_ratios")) = true ∧ Binds K fd ["_law_value", "_law_many"] [] ∧ FnP K "_law_are_ratios" sAreRat (He.ga K "_law_are_ratios") fd := by
  obtain ⟨fd, F0⟩ := c.def_ 30 (d := dFn "_law_are_ratios" "_law_are_ratios" (topS 48)) rfl
  have F : FnP K "_law_are_ratios" sAreRat (He.ga K "_law_are_ratios") fd := F0
  exact ⟨fd, He.glo_ok X Gm (c.fact 30 (f := .glo "_law_are_ratios") rfl), F.kp, bindsP F (fun _ _ _ _ _ _ us hl => match us, hl with | [_, _], _ => rfl), F⟩
theorem m__law_passed (X : K.In base) (Gm : base.Ns mainGlobals mg) (c : He.SaysD faL fnL K) : ∃ fd, mg "_law_passed" = some (.ref (He.ga K "_law_passed")) ∧ PySem.W.keepIn K (.ref (He.ga K "_law_passed")) = true ∧ Binds K fd ["_law_pen_here", "_law_ratio"] [] ∧ FnP K "_law_passed" sPassed (He.ga K "_law_passed") fd := by
  obtain ⟨fd, F0⟩ := c.def_ 31 (d := dFn "_law_passed" "_law_passed" (topS 49)) rfl
  have F : FnP K "_law_passed" sPassed (He.ga K "_law_passed") fd := F0
  exact ⟨fd, He.glo_ok X Gm (c.fact 31 (f := .glo "_law_passed") rfl), F.kp, bindsP F (fun _ _ _ _ _ _ us hl => match us, hl with | [_, _], _ => rfl), F⟩
theorem m__law_merged (X : K.In base) (Gm : base.Ns mainGlobals mg) (c : He.SaysD faL fnL K) : ∃ fd, mg "_law_merged" = some (.ref (He.ga K "_law_merged")) ∧ PySem.W.keepIn K (.ref (He.ga K "_law_merged")) = true ∧ Binds K fd ["_law_kinds", "_law_scale_here", "_law_rows"] [] ∧ FnP K "_law_merged" sMerged (He.ga K "_law_merged") fd := by
  obtain ⟨fd, F0⟩ := c.def_ 32 (d := dFn "_law_merged" "_law_merged" (topS 50)) rfl
  have F : FnP K "_law_merged" sMerged (He.ga K "_law_merged") fd := F0
  exact ⟨fd, He.glo_ok X Gm (c.fact 32 (f := .glo "_law_merged") rfl), F.kp, bindsP F (fun _ _ _ _ _ _ us hl => match us, hl with | [_, _, _], _ => rfl), F⟩
theorem m__law_numbers (X : K.In base) (Gm : base.Ns mainGlobals mg) (c : He.SaysD faL fnL K) : ∃ fd, mg "_law_numbers" = some (.ref (He.ga K "_law_numbers")) ∧ PySem.W.keepIn K (.ref (He.ga K "_law_numbers")) = true ∧ Binds K fd ["_law_pen_here", "_law_kinds", "_law_most"] [] ∧ FnP K "_law_numbers" sNumbers (He.ga K "_law_numbers") fd := by
  obtain ⟨fd, F0⟩ := c.def_ 33 (d := dFn "_law_numbers" "_law_numbers" (topS 51)) rfl
  have F : FnP K "_law_numbers" sNumbers (He.ga K "_law_numbers") fd := F0
  exact ⟨fd, He.glo_ok X Gm (c.fact 33 (f := .glo "_law_numbers") rfl), F.kp, bindsP F (fun _ _ _ _ _ _ us hl => match us, hl with | [_, _, _], _ => rfl), F⟩
theorem m__law_block (X : K.In base) (Gm : base.Ns mainGlobals mg) (c : He.SaysD faL fnL K) : ∃ fd, mg "_law_block" = some (.ref (He.ga K "_law_block")) ∧ PySem.W.keepIn K (.ref (He.ga K "_law_block")) = true ∧ Binds K fd ["_law_pen_here", "_law_kinds", "_law_most"] [] ∧ FnP K "_law_block" sBlock (He.ga K "_law_block") fd := by
  obtain ⟨fd, F0⟩ := c.def_ 34 (d := dFn "_law_block" "_law_block" (topS 52)) rfl
  have F : FnP K "_law_block" sBlock (He.ga K "_law_block") fd := F0
  exact ⟨fd, He.glo_ok X Gm (c.fact 34 (f := .glo "_law_block") rfl), F.kp, bindsP F (fun _ _ _ _ _ _ us hl => match us, hl with | [_, _, _], _ => rfl), F⟩
theorem m__law_scale (X : K.In base) (Gm : base.Ns mainGlobals mg) (c : He.SaysD faL fnL K) : ∃ fd, mg "_law_scale" = some (.ref (He.ga K "_law_scale")) ∧ PySem.W.keepIn K (.ref (He.ga K "_law_scale")) = true ∧ Binds K fd ["_law_pen_here"] [] ∧ FnP K "_law_scale" sScaleL (He.ga K "_law_scale") fd := by
  obtain ⟨fd, F0⟩ := c.def_ 35 (d := dFn "_law_scale" "_law_scale" (topS 53)) rfl
  have F : FnP K "_law_scale" sScaleL (He.ga K "_law_scale") fd := F0
  exact ⟨fd, He.glo_ok X Gm (c.fact 35 (f := .glo "_law_scale") rfl), F.kp, bindsP F (fun _ _ _ _ _ _ us hl => match us, hl with | [_], _ => rfl), F⟩
theorem m__law_buyer (X : K.In base) (Gm : base.Ns mainGlobals mg) (c : He.SaysD faL fnL K) : ∃ fd, mg "_law_buyer" = some (.ref (He.ga K "_law_buyer")) ∧ PySem.W.keepIn K (.ref (He.ga K "_law_buyer")) = true ∧ Binds K fd ["_law_pen_here", "_law_kinds", "_law_scale_here", "_law_most", "_law_many"] [] ∧ FnP K "_law_buyer" sBuyer (He.ga K "_law_buyer") fd := by
  obtain ⟨fd, F0⟩ := c.def_ 36 (d := dFn "_law_buyer" "_law_buyer" (topS 54)) rfl
  have F : FnP K "_law_buyer" sBuyer (He.ga K "_law_buyer") fd := F0
  exact ⟨fd, He.glo_ok X Gm (c.fact 36 (f := .glo "_law_buyer") rfl), F.kp, bindsP F (fun _ _ _ _ _ _ us hl => match us, hl with | [_, _, _, _, _], _ => rfl), F⟩
theorem m__law_list (X : K.In base) (Gm : base.Ns mainGlobals mg) (c : He.SaysD faL fnL K) : ∃ fd, mg "_law_list" = some (.ref (He.ga K "_law_list")) ∧ PySem.W.keepIn K (.ref (He.ga K "_law_list")) = true ∧ Binds K fd ["_law_pen_here", "_law_kinds", "_law_scale_here", "_law_most", "_law_many"] [] ∧ FnP K "_law_list" sList (He.ga K "_law_list") fd := by
  obtain ⟨fd, F0⟩ := c.def_ 37 (d := dFn "_law_list" "_law_list" (topS 55)) rfl
  have F : FnP K "_law_list" sList (He.ga K "_law_list") fd := F0
  exact ⟨fd, He.glo_ok X Gm (c.fact 37 (f := .glo "_law_list") rfl), F.kp, bindsP F (fun _ _ _ _ _ _ us hl => match us, hl with | [_, _, _, _, _], _ => rfl), F⟩
theorem m__law_made (X : K.In base) (Gm : base.Ns mainGlobals mg) (c : He.SaysD faL fnL K) : ∃ fd, mg "_law_made" = some (.ref (He.ga K "_law_made")) ∧ PySem.W.keepIn K (.ref (He.ga K "_law_made")) = true ∧ Binds K fd ["_law_pen_here", "_law_bids"] [] ∧ FnP K "_law_made" sMade (He.ga K "_law_made") fd := by
  obtain ⟨fd, F0⟩ := c.def_ 38 (d := dFn "_law_made" "_law_made" (topS 56)) rfl
  have F : FnP K "_law_made" sMade (He.ga K "_law_made") fd := F0
  exact ⟨fd, He.glo_ok X Gm (c.fact 38 (f := .glo "_law_made") rfl), F.kp, bindsP F (fun _ _ _ _ _ _ us hl => match us, hl with | [_, _], _ => rfl), F⟩
theorem m__law_sum (X : K.In base) (Gm : base.Ns mainGlobals mg) (c : He.SaysD faL fnL K) : ∃ fd, mg "_law_sum" = some (.ref (He.ga K "_law_sum")) ∧ PySem.W.keepIn K (.ref (He.ga K "_law_sum")) = true ∧ Binds K fd ["_law_one", "_law_other"] [] ∧ FnP K "_law_sum" sSum (He.ga K "_law_sum") fd := by
  obtain ⟨fd, F0⟩ := c.def_ 39 (d := dFn "_law_sum" "_law_sum" (topS 57)) rfl
  have F : FnP K "_law_sum" sSum (He.ga K "_law_sum") fd := F0
  exact ⟨fd, He.glo_ok X Gm (c.fact 39 (f := .glo "_law_sum") rfl), F.kp, bindsP F (fun _ _ _ _ _ _ us hl => match us, hl with | [_, _], _ => rfl), F⟩
theorem m__law_planes (X : K.In base) (Gm : base.Ns mainGlobals mg) (c : He.SaysD faL fnL K) : ∃ fd, mg "_law_planes" = some (.ref (He.ga K "_law_planes")) ∧ PySem.W.keepIn K (.ref (He.ga K "_law_planes")) = true ∧ Binds K fd ["_law_bids"] [] ∧ FnP K "_law_planes" sPlanes (He.ga K "_law_planes") fd := by
  obtain ⟨fd, F0⟩ := c.def_ 40 (d := dFn "_law_planes" "_law_planes" (topS 58)) rfl
  have F : FnP K "_law_planes" sPlanes (He.ga K "_law_planes") fd := F0
  exact ⟨fd, He.glo_ok X Gm (c.fact 40 (f := .glo "_law_planes") rfl), F.kp, bindsP F (fun _ _ _ _ _ _ us hl => match us, hl with | [_], _ => rfl), F⟩
theorem m__law_bests (X : K.In base) (Gm : base.Ns mainGlobals mg) (c : He.SaysD faL fnL K) : ∃ fd, mg "_law_bests" = some (.ref (He.ga K "_law_bests")) ∧ PySem.W.keepIn K (.ref (He.ga K "_law_bests")) = true ∧ Binds K fd ["_law_numbers_here", "_law_prices"] [] ∧ FnP K "_law_bests" sBests (He.ga K "_law_bests") fd := by
  obtain ⟨fd, F0⟩ := c.def_ 41 (d := dFn "_law_bests" "_law_bests" (topS 60)) rfl
  have F : FnP K "_law_bests" sBests (He.ga K "_law_bests") fd := F0
  exact ⟨fd, He.glo_ok X Gm (c.fact 41 (f := .glo "_law_bests") rfl), F.kp, bindsP F (fun _ _ _ _ _ _ us hl => match us, hl with | [_, _], _ => rfl), F⟩
theorem m__law_difference (X : K.In base) (Gm : base.Ns mainGlobals mg) (c : He.SaysD faL fnL K) : ∃ fd, mg "_law_difference" = some (.ref (He.ga K "_law_difference")) ∧ PySem.W.keepIn K (.ref (He.ga K "_law_difference")) = true ∧ Binds K fd ["_law_one", "_law_other"] [] ∧ FnP K "_law_difference" sDiff (He.ga K "_law_difference") fd := by
  obtain ⟨fd, F0⟩ := c.def_ 42 (d := dFn "_law_difference" "_law_difference" (topS 61)) rfl
  have F : FnP K "_law_difference" sDiff (He.ga K "_law_difference") fd := F0
  exact ⟨fd, He.glo_ok X Gm (c.fact 42 (f := .glo "_law_difference") rfl), F.kp, bindsP F (fun _ _ _ _ _ _ us hl => match us, hl with | [_, _], _ => rfl), F⟩
theorem m__law_put_in (X : K.In base) (Gm : base.Ns mainGlobals mg) (c : He.SaysD faL fnL K) : ∃ fd, mg "_law_put_in" = some (.ref (He.ga K "_law_put_in")) ∧ PySem.W.keepIn K (.ref (He.ga K "_law_put_in")) = true ∧ Binds K fd ["_law_orders", "_law_one"] [] ∧ FnP K "_law_put_in" sPutIn (He.ga K "_law_put_in") fd := by
  obtain ⟨fd, F0⟩ := c.def_ 43 (d := dFn "_law_put_in" "_law_put_in" (topS 65)) rfl
  have F : FnP K "_law_put_in" sPutIn (He.ga K "_law_put_in") fd := F0
  exact ⟨fd, He.glo_ok X Gm (c.fact 43 (f := .glo "_law_put_in") rfl), F.kp, bindsP F (fun _ _ _ _ _ _ us hl => match us, hl with | [_, _], _ => rfl), F⟩
theorem m__law_wider (X : K.In base) (Gm : base.Ns mainGlobals mg) (c : He.SaysD faL fnL K) : ∃ fd, mg "_law_wider" = some (.ref (He.ga K "_law_wider")) ∧ PySem.W.keepIn K (.ref (He.ga K "_law_wider")) = true ∧ Binds K fd ["_law_planes_here", "_law_rows", "_law_kind"] [] ∧ FnP K "_law_wider" sWider (He.ga K "_law_wider") fd := by
  obtain ⟨fd, F0⟩ := c.def_ 44 (d := dFn "_law_wider" "_law_wider" (topS 63)) rfl
  have F : FnP K "_law_wider" sWider (He.ga K "_law_wider") fd := F0
  exact ⟨fd, He.glo_ok X Gm (c.fact 44 (f := .glo "_law_wider") rfl), F.kp, bindsP F (fun _ _ _ _ _ _ us hl => match us, hl with | [_, _, _], _ => rfl), F⟩
theorem m__law_corners (X : K.In base) (Gm : base.Ns mainGlobals mg) (c : He.SaysD faL fnL K) : ∃ fd, mg "_law_corners" = some (.ref (He.ga K "_law_corners")) ∧ PySem.W.keepIn K (.ref (He.ga K "_law_corners")) = true ∧ Binds K fd ["_law_bids"] [] ∧ FnP K "_law_corners" sLCorners (He.ga K "_law_corners") fd := by
  obtain ⟨fd, F0⟩ := c.def_ 45 (d := dFn "_law_corners" "_law_corners" (topS 62)) rfl
  have F : FnP K "_law_corners" sLCorners (He.ga K "_law_corners") fd := F0
  exact ⟨fd, He.glo_ok X Gm (c.fact 45 (f := .glo "_law_corners") rfl), F.kp, bindsP F (fun _ _ _ _ _ _ us hl => match us, hl with | [_], _ => rfl), F⟩
theorem m__law_cell_places (X : K.In base) (Gm : base.Ns mainGlobals mg) (c : He.SaysD faL fnL K) : ∃ fd, mg "_law_cell_places" = some (.ref (He.ga K "_law_cell_places")) ∧ PySem.W.keepIn K (.ref (He.ga K "_law_cell_places")) = true ∧ Binds K fd ["_law_bids"] [] ∧ FnP K "_law_cell_places" sPlaces (He.ga K "_law_cell_places") fd := by
  obtain ⟨fd, F0⟩ := c.def_ 46 (d := dFn "_law_cell_places" "_law_cell_places" (topS 64)) rfl
  have F : FnP K "_law_cell_places" sPlaces (He.ga K "_law_cell_places") fd := F0
  exact ⟨fd, He.glo_ok X Gm (c.fact 46 (f := .glo "_law_cell_places") rfl), F.kp, bindsP F (fun _ _ _ _ _ _ us hl => match us, hl with | [_], _ => rfl), F⟩
theorem m__law_more (X : K.In base) (Gm : base.Ns mainGlobals mg) (c : He.SaysD faL fnL K) : ∃ fd, mg "_law_more" = some (.ref (He.ga K "_law_more")) ∧ PySem.W.keepIn K (.ref (He.ga K "_law_more")) = true ∧ Binds K fd ["_law_pen_here", "_law_bids"] [] ∧ FnP K "_law_more" sMore (He.ga K "_law_more") fd := by
  obtain ⟨fd, F0⟩ := c.def_ 47 (d := dFn "_law_more" "_law_more" (topS 66)) rfl
  have F : FnP K "_law_more" sMore (He.ga K "_law_more") fd := F0
  exact ⟨fd, He.glo_ok X Gm (c.fact 47 (f := .glo "_law_more") rfl), F.kp, bindsP F (fun _ _ _ _ _ _ us hl => match us, hl with | [_, _], _ => rfl), F⟩
theorem m__law_units (X : K.In base) (Gm : base.Ns mainGlobals mg) (c : He.SaysD faL fnL K) : ∃ fd, mg "_law_units" = some (.ref (He.ga K "_law_units")) ∧ PySem.W.keepIn K (.ref (He.ga K "_law_units")) = true ∧ Binds K fd ["_law_bids", "_law_prices"] [] ∧ FnP K "_law_units" sLUnits (He.ga K "_law_units") fd := by
  obtain ⟨fd, F0⟩ := c.def_ 48 (d := dFn "_law_units" "_law_units" (topS 67)) rfl
  have F : FnP K "_law_units" sLUnits (He.ga K "_law_units") fd := F0
  exact ⟨fd, He.glo_ok X Gm (c.fact 48 (f := .glo "_law_units") rfl), F.kp, bindsP F (fun _ _ _ _ _ _ us hl => match us, hl with | [_, _], _ => rfl), F⟩
theorem m__law_units_told (X : K.In base) (Gm : base.Ns mainGlobals mg) (c : He.SaysD faL fnL K) : ∃ fd, mg "_law_units_told" = some (.ref (He.ga K "_law_units_told")) ∧ PySem.W.keepIn K (.ref (He.ga K "_law_units_told")) = true ∧ Binds K fd ["_law_bids", "_law_prices"] [] ∧ FnP K "_law_units_told" sTold2 (He.ga K "_law_units_told") fd := by
  obtain ⟨fd, F0⟩ := c.def_ 49 (d := dFn "_law_units_told" "_law_units_told" (topS 68)) rfl
  have F : FnP K "_law_units_told" sTold2 (He.ga K "_law_units_told") fd := F0
  exact ⟨fd, He.glo_ok X Gm (c.fact 49 (f := .glo "_law_units_told") rfl), F.kp, bindsP F (fun _ _ _ _ _ _ us hl => match us, hl with | [_, _], _ => rfl), F⟩
theorem m__law_is_less (X : K.In base) (Gm : base.Ns mainGlobals mg) (c : He.SaysD faL fnL K) : ∃ fd, mg "_law_is_less" = some (.ref (He.ga K "_law_is_less")) ∧ PySem.W.keepIn K (.ref (He.ga K "_law_is_less")) = true ∧ Binds K fd ["_law_told", "_law_one", "_law_other"] [] ∧ FnP K "_law_is_less" sIsLess (He.ga K "_law_is_less") fd := by
  obtain ⟨fd, F0⟩ := c.def_ 50 (d := dFn "_law_is_less" "_law_is_less" (topS 69)) rfl
  have F : FnP K "_law_is_less" sIsLess (He.ga K "_law_is_less") fd := F0
  exact ⟨fd, He.glo_ok X Gm (c.fact 50 (f := .glo "_law_is_less") rfl), F.kp, bindsP F (fun _ _ _ _ _ _ us hl => match us, hl with | [_, _, _], _ => rfl), F⟩
theorem m__law_two (X : K.In base) (Gm : base.Ns mainGlobals mg) (c : He.SaysD faL fnL K) : ∃ fd, mg "_law_two" = some (.ref (He.ga K "_law_two")) ∧ PySem.W.keepIn K (.ref (He.ga K "_law_two")) = true ∧ Binds K fd ["_law_pen_here", "_law_kinds", "_law_scale_here"] [] ∧ FnP K "_law_two" sTwo (He.ga K "_law_two") fd := by
  obtain ⟨fd, F0⟩ := c.def_ 51 (d := dFn "_law_two" "_law_two" (topS 70)) rfl
  have F : FnP K "_law_two" sTwo (He.ga K "_law_two") fd := F0
  exact ⟨fd, He.glo_ok X Gm (c.fact 51 (f := .glo "_law_two") rfl), F.kp, bindsP F (fun _ _ _ _ _ _ us hl => match us, hl with | [_, _, _], _ => rfl), F⟩
theorem m__law_fault (X : K.In base) (Gm : base.Ns mainGlobals mg) (c : He.SaysD faL fnL K) : ∃ fd, mg "_law_fault" = some (.ref (He.ga K "_law_fault")) ∧ PySem.W.keepIn K (.ref (He.ga K "_law_fault")) = true ∧ Binds K fd ["_law_call"] [] ∧ FnP K "_law_fault" sFault (He.ga K "_law_fault") fd := by
  obtain ⟨fd, F0⟩ := c.def_ 52 (d := dFn "_law_fault" "_law_fault" (topS 59)) rfl
  have F : FnP K "_law_fault" sFault (He.ga K "_law_fault") fd := F0
  exact ⟨fd, He.glo_ok X Gm (c.fact 52 (f := .glo "_law_fault") rfl), F.kp, bindsP F (fun _ _ _ _ _ _ us hl => match us, hl with | [_], _ => rfl), F⟩
theorem m_law (X : K.In base) (Gm : base.Ns mainGlobals mg) (c : He.SaysD faL fnL K) : ∃ fd, mg "law" = some (.ref (He.ga K "law")) ∧ PySem.W.keepIn K (.ref (He.ga K "law")) = true ∧ Binds K fd ["_law_script"] [] ∧ FnP K "law" sLaw (He.ga K "law") fd := by
  obtain ⟨fd, F0⟩ := c.def_ 53 (d := dFn "law" "law" (topS 71)) rfl
  have F : FnP K "law" sLaw (He.ga K "law") fd := F0
  exact ⟨fd, He.glo_ok X Gm (c.fact 53 (f := .glo "law") rfl), F.kp, bindsP F (fun _ _ _ _ _ _ us hl => match us, hl with | [_], _ => rfl), F⟩
theorem m_Less_init (c : He.SaysD faL fnL K) : ∃ fd, Binds K fd ["self", "prices", "kind"] [] ∧ FnM K "__init__" "Less.__init__" sLess (He.ma K (He.ga K "Less") "__init__") fd := by
  obtain ⟨fd, F0⟩ := c.def_ 54 (d := dMt "Less" "__init__" "__init__" "Less.__init__" (mS 17 0)) rfl
  have F : FnM K "__init__" "Less.__init__" sLess (He.ma K (He.ga K "Less") "__init__") fd := F0
  exact ⟨fd, FunD.bindsN F (fun _ _ _ _ _ _ us hl => match us, hl with | [_, _, _], _ => rfl), F⟩
theorem m_Bids_init (c : He.SaysD faL fnL K) : ∃ fd, Binds K fd ["self", "kinds", "rows"] [] ∧ FnM K "__init__" "Bids.__init__" sInit (He.ma K (He.ga K "Bids") "__init__") fd := by
  obtain ⟨fd, F0⟩ := c.def_ 55 (d := dMt "Bids" "__init__" "__init__" "Bids.__init__" (mS 37 0)) rfl
  have F : FnM K "__init__" "Bids.__init__" sInit (He.ma K (He.ga K "Bids") "__init__") fd := F0
  exact ⟨fd, FunD.bindsN F (fun _ _ _ _ _ _ us hl => match us, hl with | [_, _, _], _ => rfl), F⟩
theorem m_Bids_add (c : He.SaysD faL fnL K) : ∃ fd, Binds K fd ["self", "other"] [] ∧ FnM K "__add__" "Bids.__add__" sAdd (He.ma K (He.ga K "Bids") (PySem.dunder "add")) fd := by
  obtain ⟨fd, F0⟩ := c.def_ 56 (d := dMt "Bids" (PySem.dunder "add") "__add__" "Bids.__add__" (mS 37 2)) rfl
  have F : FnM K "__add__" "Bids.__add__" sAdd (He.ma K (He.ga K "Bids") (PySem.dunder "add")) fd := F0
  exact ⟨fd, FunD.bindsN F (fun _ _ _ _ _ _ us hl => match us, hl with | [_, _], _ => rfl), F⟩
theorem m_Bids_neg (c : He.SaysD faL fnL K) : ∃ fd, Binds K fd ["self"] [] ∧ FnM K "__neg__" "Bids.__neg__" sNeg (He.ma K (He.ga K "Bids") "__neg__") fd := by
  obtain ⟨fd, F0⟩ := c.def_ 57 (d := dMt "Bids" "__neg__" "__neg__" "Bids.__neg__" (mS 37 3)) rfl
  have F : FnM K "__neg__" "Bids.__neg__" sNeg (He.ma K (He.ga K "Bids") "__neg__") fd := F0
  exact ⟨fd, FunD.bindsN F (fun _ _ _ _ _ _ us hl => match us, hl with | [_], _ => rfl), F⟩
theorem m_Unlike_init (c : He.SaysD faL fnL K) : ∃ fd, Binds K fd ["self", "what"] [] ∧ FnM K "__init__" "Unlike.__init__" sUInit (He.ma K (He.ga K "Unlike") "__init__") fd := by
  obtain ⟨fd, F0⟩ := c.def_ 58 (d := dMt "Unlike" "__init__" "__init__" "Unlike.__init__" (mS 4 0)) rfl
  have F : FnM K "__init__" "Unlike.__init__" sUInit (He.ma K (He.ga K "Unlike") "__init__") fd := F0
  exact ⟨fd, FunD.bindsN F (fun _ _ _ _ _ _ us hl => match us, hl with | [_, _], _ => rfl), F⟩
end
section
variable {P : Program} {w : World} {K : PySem.W.Frag} {mg : Str → Option Value} {base : Heap}
theorem lawG_of (X : K.In base) (Gm : base.Ns mainGlobals mg) (c : He.SaysD faL fnL K) (E : ExOk K) (TB : LamX.TabB base mg (He.codeOf K ("law", none)) (He.tabOf K (He.codeOf K ("law", none)))) :
    LawG P w K mg base (He.ga K "Bids") (He.ga K "Less") (He.ga K "BadRow") (He.ga K "Unlike") (He.codeOf K ("law", none)) (He.tabOf K (He.codeOf K ("law", none))) := by
  have B := bn_of X Gm c
  have cB : Cls K (He.ga K "Bids") := He.cls_ok (c.fact 78 (f := .cls "Bids") rfl)
  have cL : Cls K (He.ga K "Less") := He.cls_ok (c.fact 77 (f := .cls "Less") rfl)
  have nBk : NoAttr K (He.ga K "Bids") "kinds" := He.noat_ok (c.fact 81 (f := .noat "Bids" "kinds") rfl)
  have nBr : NoAttr K (He.ga K "Bids") "rows" := He.noat_ok (c.fact 82 (f := .noat "Bids" "rows") rfl)
  have nLp : NoAttr K (He.ga K "Less") "prices" := He.noat_ok (c.fact 79 (f := .noat "Less" "prices") rfl)
  have nLk : NoAttr K (He.ga K "Less") "kind" := He.noat_ok (c.fact 80 (f := .noat "Less" "kind") rfl)
  have uW : PySem.W.findIn K (.ref (He.ga K "Unlike")) "what" = some none := He.noat_ok (c.fact 83 (f := .noat "Unlike" "what") rfl)
  have hMost := He.int_ok X Gm (c.fact 76 (f := .int "MOST_KINDS" 3) rfl)
  have gLess : mg "Less" = some (.ref (He.ga K "Less")) := He.glo_ok X Gm (c.fact 54 (f := .glo "Less") rfl)
  have gUnl : mg "Unlike" = some (.ref (He.ga K "Unlike")) := He.glo_ok X Gm (c.fact 56 (f := .glo "Unlike") rfl)
  have gRow : mg "BadRow" = some (.ref (He.ga K "BadRow")) := He.glo_ok X Gm (c.fact 58 (f := .glo "BadRow") rfl)
  have gErr : mg "BidError" = some (.ref (He.ga K "BidError")) := He.glo_ok X Gm (c.fact 57 (f := .glo "BidError") rfl)
  have lf : LessF K mg (He.ga K "Less") := ⟨gLess, E.isc, nLp, nLk⟩
  have g_is_whole : Std P w K mg base 1 "is_whole" ["value"] fsIsWhole := by
    obtain ⟨fd, h1, h2, h3, F⟩ := m_is_whole X Gm c
    exact ⟨_, fd, h1, h2, h3, ok_is_whole F B⟩
  have g_is_ratio : Std P w K mg base 2 "is_ratio" ["value"] fsIsRatio := by
    obtain ⟨fd, h1, h2, h3, F⟩ := m_is_ratio X Gm c
    exact ⟨_, fd, h1, h2, h3, ok_is_ratio F B g_is_whole⟩
  have g_divisor : Std P w K mg base 1 "divisor" ["one", "other"] fsDivisor := by
    obtain ⟨fd, h1, h2, h3, F⟩ := m_divisor X Gm c
    exact ⟨_, fd, h1, h2, h3, ok_divisor F B⟩
  have g_lowest : Std P w K mg base 2 "lowest" ["top", "bottom"] fsLowest := by
    obtain ⟨fd, h1, h2, h3, F⟩ := m_lowest X Gm c
    exact ⟨_, fd, h1, h2, h3, ok_lowest F g_divisor⟩
  have g_told : Std P w K mg base 3 "told" ["value", "what"] fsTold := by
    obtain ⟨fd, h1, h2, h3, F⟩ := m_told X Gm c
    exact ⟨_, fd, h1, h2, h3, ok_told F g_is_whole g_is_ratio g_lowest⟩
  have g_bottom_of : Std P w K mg base 2 "bottom_of" ["ratios"] fsBottom := by
    obtain ⟨fd, h1, h2, h3, F⟩ := m_bottom_of X Gm c
    exact ⟨_, fd, h1, h2, h3, ok_bottom F g_divisor⟩
  have g_need_kinds_likeness : Std P w K mg base 1 "need_kinds_likeness" ["one", "other"] (fsNeedL (He.ga K "Bids")) := by
    obtain ⟨fd, h1, h2, h3, F⟩ := m_need_kinds_likeness X Gm c
    exact ⟨_, fd, h1, h2, h3, ok_need_l F cB nBk⟩
  have g_common_divisor : Std P w K mg base 1 "common_divisor" ["one", "other"] fsCommon := by
    obtain ⟨fd, h1, h2, h3, F⟩ := m_common_divisor X Gm c
    exact ⟨_, fd, h1, h2, h3, ok_common F⟩
  have g_scale_of : Std P w K mg base 2 "scale_of" ["rows"] fsScale := by
    obtain ⟨fd, h1, h2, h3, F⟩ := m_scale_of X Gm c
    exact ⟨_, fd, h1, h2, h3, ok_scale F g_common_divisor⟩
  have g_whole_rows : Std P w K mg base 1 "whole_rows" ["rows", "scale"] fsWhole := by
    obtain ⟨fd, h1, h2, h3, F⟩ := m_whole_rows X Gm c
    exact ⟨_, fd, h1, h2, h3, ok_whole F⟩
  have g_price_tuple : Std P w K mg base 4 "price_tuple" ["prices", "scale"] fsPriceTup := by
    obtain ⟨fd, h1, h2, h3, F⟩ := m_price_tuple X Gm c
    exact ⟨_, fd, h1, h2, h3, ok_price_tuple F B g_told⟩
  have g_stops_of : Std P w K mg base 1 "stops_of" ["rows", "kinds"] fsStops := by
    obtain ⟨fd, h1, h2, h3, F⟩ := m_stops_of X Gm c
    exact ⟨_, fd, h1, h2, h3, ok_stops F B⟩
  have g_orders_of : Std P w K mg base 5 "orders_of" ["some"] (fsOrders 4) := by
    obtain ⟨fd, h1, h2, h3, F⟩ := m_orders_of X Gm c
    have o0 : Std P w K mg base 1 "orders_of" ["some"] (fsOrders 0) := ⟨_, fd, h1, h2, h3, ok_orders0 F B⟩
    have o1 : Std P w K mg base 2 "orders_of" ["some"] (fsOrders 1) := ⟨_, fd, h1, h2, h3, ok_ordersS (by decide) F B o0⟩
    have o2 : Std P w K mg base 3 "orders_of" ["some"] (fsOrders 2) := ⟨_, fd, h1, h2, h3, ok_ordersS (by decide) F B o1⟩
    have o3 : Std P w K mg base 4 "orders_of" ["some"] (fsOrders 3) := ⟨_, fd, h1, h2, h3, ok_ordersS (by decide) F B o2⟩
    exact ⟨_, fd, h1, h2, h3, ok_ordersS (by decide) F B o3⟩
  have g_corners_of : Std P w K mg base 6 "corners_of" ["rows", "kinds"] fsCorners := by
    obtain ⟨fd, h1, h2, h3, F⟩ := m_corners_of X Gm c
    exact ⟨_, fd, h1, h2, h3, ok_corners F B g_stops_of g_orders_of⟩
  have g_offsets_of : Std P w K mg base 6 "offsets_of" ["kinds"] fsOffsets := by
    obtain ⟨fd, h1, h2, h3, F⟩ := m_offsets_of X Gm c
    exact ⟨_, fd, h1, h2, h3, ok_offsets F B g_orders_of⟩
  have g_units_taken : Std P w K mg base 1 "units_taken" ["rows", "prices", "by", "kinds"] fsUnits := by
    obtain ⟨fd, h1, h2, h3, F⟩ := m_units_taken X Gm c
    exact ⟨_, fd, h1, h2, h3, ok_units F B⟩
  have g_need_kinds_bids : Std P w K mg base 2 "need_kinds_bids" ["kinds"] fsNeedB := by
    obtain ⟨fd, h1, h2, h3, F⟩ := m_need_kinds_bids X Gm c
    exact ⟨_, fd, h1, h2, h3, ok_need_b F B hMost g_is_whole⟩
  have g_is_price_row : Std P w K mg base 4 "is_price_row" ["value", "kinds"] fsPriceRow := by
    obtain ⟨fd, h1, h2, h3, F⟩ := m_is_price_row X Gm c
    exact ⟨_, fd, h1, h2, h3, ok_price_row F B g_is_ratio g_told⟩
  have g_is_bid : Std P w K mg base 5 "is_bid" ["value", "kinds"] fsIsBid := by
    obtain ⟨fd, h1, h2, h3, F⟩ := m_is_bid X Gm c
    exact ⟨_, fd, h1, h2, h3, ok_is_bid F B g_is_whole g_is_price_row⟩
  have g_plain_rows : Std P w K mg base 4 "plain_rows" ["rows"] fsPlain := by
    obtain ⟨fd, h1, h2, h3, F⟩ := m_plain_rows X Gm c
    exact ⟨_, fd, h1, h2, h3, ok_plain F B g_told g_bottom_of⟩
  have mk_bids : StdMk P w K mg base 6 "Bids" (He.ga K "Bids") ["self", "kinds", "rows"] (fsInit (He.ga K "Bids")) := by
    obtain ⟨fd, h1, F⟩ := m_Bids_init c
    exact ⟨_, fd, He.glo_ok X Gm (c.fact 55 (f := .glo "Bids") rfl), He.mkr_ok (c.fact 87 (f := .mkr "Bids") rfl), h1, ok_init F B cB nBk nBr g_need_kinds_bids g_is_bid g_plain_rows⟩
  have mk_less : StdMk P w K mg base 1 "Less" (He.ga K "Less") ["self", "prices", "kind"] (fsLess (He.ga K "Less")) := by
    obtain ⟨fd, h1, F⟩ := m_Less_init c
    exact ⟨_, fd, He.glo_ok X Gm (c.fact 54 (f := .glo "Less") rfl), He.mkr_ok (c.fact 86 (f := .mkr "Less") rfl), h1, ok_less F B cL nLp nLk⟩
  have b_add : StdM P w K mg base 8 (He.ga K "Bids") (PySem.dunder "add") ["self", "other"] (fsAdd (He.ga K "Bids")) := by
    obtain ⟨fd, h1, F⟩ := m_Bids_add c
    exact ⟨_, fd, He.meth_ok (c.fact 84 (f := .meth "Bids" (PySem.dunder "add")) rfl), h1, ok_add F cB nBk nBr mk_bids⟩
  have b_neg : StdM P w K mg base 8 (He.ga K "Bids") "__neg__" ["self"] (fsNeg (He.ga K "Bids")) := by
    obtain ⟨fd, h1, F⟩ := m_Bids_neg c
    exact ⟨_, fd, He.meth_ok (c.fact 85 (f := .meth "Bids" "__neg__") rfl), h1, ok_neg F cB nBk nBr mk_bids⟩
  have g_takes_no_less : Std P w K mg base 9 "takes_no_less" ["one", "other"] (fsTakes (He.ga K "Bids") (He.ga K "Less")) := by
    obtain ⟨fd, h1, h2, h3, F⟩ := m_takes_no_less X Gm c
    exact ⟨_, fd, h1, h2, h3, ok_takes F B ⟨g_need_kinds_likeness, g_scale_of, g_whole_rows, g_offsets_of, g_corners_of, g_units_taken, g_price_tuple, mk_less, b_add, b_neg, E.sf, cB, nBk, nBr, He.int_ok X Gm (c.fact 75 (f := .int "FINE" 8) rfl)⟩⟩
  have g__law_pen : Std P w K mg base 1 "_law_pen" ["_law_script"] (fsPen K) := by
    obtain ⟨fd, h1, h2, h3, F⟩ := m__law_pen X Gm c
    exact ⟨_, fd, h1, h2, h3, ok_pen F B⟩
  have g__law_draw : Std P w K mg base 1 "_law_draw" ["_law_pen_here", "_law_many"] fsDraw := by
    obtain ⟨fd, h1, h2, h3, F⟩ := m__law_draw X Gm c
    exact ⟨_, fd, h1, h2, h3, ok_draw F B⟩
  have g__law_pick : Std P w K mg base 2 "_law_pick" ["_law_pen_here", "_law_some"] fsPick := by
    obtain ⟨fd, h1, h2, h3, F⟩ := m__law_pick X Gm c
    exact ⟨_, fd, h1, h2, h3, ok_pick F B g__law_draw⟩
  have g__law_is_whole : Std P w K mg base 1 "_law_is_whole" ["_law_value"] fsIsWhole := by
    obtain ⟨fd, h1, h2, h3, F⟩ := m__law_is_whole X Gm c
    exact ⟨_, fd, h1, h2, h3, ok_is_wholeL F B⟩
  have g__law_gcd : Std P w K mg base 1 "_law_gcd" ["_law_one", "_law_two_here"] fsGcd := by
    obtain ⟨fd, h1, h2, h3, F⟩ := m__law_gcd X Gm c
    exact ⟨_, fd, h1, h2, h3, ok_gcd F B⟩
  have g__law_q : Std P w K mg base 2 "_law_q" ["_law_top", "_law_bottom"] fsQ := by
    obtain ⟨fd, h1, h2, h3, F⟩ := m__law_q X Gm c
    exact ⟨_, fd, h1, h2, h3, ok_q F g__law_gcd⟩
  have g__law_minus : Std P w K mg base 3 "_law_minus" ["_law_one", "_law_two_here"] fsMinus := by
    obtain ⟨fd, h1, h2, h3, F⟩ := m__law_minus X Gm c
    exact ⟨_, fd, h1, h2, h3, ok_minus F g__law_q⟩
  have g__law_less : Std P w K mg base 1 "_law_less" ["_law_one", "_law_two_here"] fsLt := by
    obtain ⟨fd, h1, h2, h3, F⟩ := m__law_less X Gm c
    exact ⟨_, fd, h1, h2, h3, ok_lt F⟩
  have g__law_is_ratio : Std P w K mg base 2 "_law_is_ratio" ["_law_value"] fsIsRatL := by
    obtain ⟨fd, h1, h2, h3, F⟩ := m__law_is_ratio X Gm c
    exact ⟨_, fd, h1, h2, h3, ok_isratL F B g__law_is_whole g__law_gcd⟩
  have g__law_are_ratios : Std P w K mg base 3 "_law_are_ratios" ["_law_value", "_law_many"] fsAreRat := by
    obtain ⟨fd, h1, h2, h3, F⟩ := m__law_are_ratios X Gm c
    exact ⟨_, fd, h1, h2, h3, ok_arerat F B g__law_is_ratio⟩
  have g__law_passed : Std P w K mg base 3 "_law_passed" ["_law_pen_here", "_law_ratio"] fsPassed := by
    obtain ⟨fd, h1, h2, h3, F⟩ := m__law_passed X Gm c
    exact ⟨_, fd, h1, h2, h3, ok_passed F g__law_draw g__law_pick⟩
  have g__law_merged : Std P w K mg base 1 "_law_merged" ["_law_kinds", "_law_scale_here", "_law_rows"] fsMerged := by
    obtain ⟨fd, h1, h2, h3, F⟩ := m__law_merged X Gm c
    exact ⟨_, fd, h1, h2, h3, ok_merged F B⟩
  have g__law_numbers : Std P w K mg base 3 "_law_numbers" ["_law_pen_here", "_law_kinds", "_law_most"] fsNumbers := by
    obtain ⟨fd, h1, h2, h3, F⟩ := m__law_numbers X Gm c
    exact ⟨_, fd, h1, h2, h3, ok_numbers F B g__law_draw g__law_pick⟩
  have g__law_block : Std P w K mg base 2 "_law_block" ["_law_pen_here", "_law_kinds", "_law_most"] fsBlock := by
    obtain ⟨fd, h1, h2, h3, F⟩ := m__law_block X Gm c
    exact ⟨_, fd, h1, h2, h3, ok_block F B g__law_draw⟩
  have g__law_scale : Std P w K mg base 3 "_law_scale" ["_law_pen_here"] fsScaleL := by
    obtain ⟨fd, h1, h2, h3, F⟩ := m__law_scale X Gm c
    exact ⟨_, fd, h1, h2, h3, ok_scaleL F g__law_pick⟩
  have g__law_buyer : Std P w K mg base 4 "_law_buyer" ["_law_pen_here", "_law_kinds", "_law_scale_here", "_law_most", "_law_many"] fsBuyer := by
    obtain ⟨fd, h1, h2, h3, F⟩ := m__law_buyer X Gm c
    exact ⟨_, fd, h1, h2, h3, ok_buyer F B g__law_draw g__law_numbers g__law_merged⟩
  have g__law_list : Std P w K mg base 5 "_law_list" ["_law_pen_here", "_law_kinds", "_law_scale_here", "_law_most", "_law_many"] fsList := by
    obtain ⟨fd, h1, h2, h3, F⟩ := m__law_list X Gm c
    exact ⟨_, fd, h1, h2, h3, ok_list F B g__law_draw g__law_numbers g__law_merged g__law_buyer⟩
  have g__law_made : Std P w K mg base 8 "_law_made" ["_law_pen_here", "_law_bids"] (fsMade (He.ga K "Bids")) := by
    obtain ⟨fd, h1, h2, h3, F⟩ := m__law_made X Gm c
    exact ⟨_, fd, h1, h2, h3, ok_made F B g__law_draw g__law_q g__law_passed mk_bids⟩
  have g__law_sum : Std P w K mg base 2 "_law_sum" ["_law_one", "_law_other"] fsSum := by
    obtain ⟨fd, h1, h2, h3, F⟩ := m__law_sum X Gm c
    exact ⟨_, fd, h1, h2, h3, ok_sum F B g__law_merged⟩
  have g__law_planes : Std P w K mg base 1 "_law_planes" ["_law_bids"] fsPlanes := by
    obtain ⟨fd, h1, h2, h3, F⟩ := m__law_planes X Gm c
    exact ⟨_, fd, h1, h2, h3, ok_planes F B⟩
  have g__law_bests : Std P w K mg base 1 "_law_bests" ["_law_numbers_here", "_law_prices"] fsBests := by
    obtain ⟨fd, h1, h2, h3, F⟩ := m__law_bests X Gm c
    exact ⟨_, fd, h1, h2, h3, ok_bests F B⟩
  have g__law_difference : Std P w K mg base 2 "_law_difference" ["_law_one", "_law_other"] fsDiff := by
    obtain ⟨fd, h1, h2, h3, F⟩ := m__law_difference X Gm c
    exact ⟨_, fd, h1, h2, h3, ok_diff F B g__law_merged⟩
  have g__law_put_in : Std P w K mg base 1 "_law_put_in" ["_law_orders", "_law_one"] fsPutIn := by
    obtain ⟨fd, h1, h2, h3, F⟩ := m__law_put_in X Gm c
    exact ⟨_, fd, h1, h2, h3, ok_put_in F B⟩
  have g__law_wider : Std P w K mg base 1 "_law_wider" ["_law_planes_here", "_law_rows", "_law_kind"] fsWider := by
    obtain ⟨fd, h1, h2, h3, F⟩ := m__law_wider X Gm c
    exact ⟨_, fd, h1, h2, h3, ok_wider F B⟩
  have g__law_corners : Std P w K mg base 2 "_law_corners" ["_law_bids"] fsLCorners := by
    obtain ⟨fd, h1, h2, h3, F⟩ := m__law_corners X Gm c
    exact ⟨_, fd, h1, h2, h3, ok_lcorners F B g__law_planes g__law_wider⟩
  have g__law_cell_places : Std P w K mg base 3 "_law_cell_places" ["_law_bids"] fsPlaces := by
    obtain ⟨fd, h1, h2, h3, F⟩ := m__law_cell_places X Gm c
    exact ⟨_, fd, h1, h2, h3, ok_places F B g__law_put_in g__law_corners⟩
  have g__law_more : Std P w K mg base 5 "_law_more" ["_law_pen_here", "_law_bids"] fsMore := by
    obtain ⟨fd, h1, h2, h3, F⟩ := m__law_more X Gm c
    exact ⟨_, fd, h1, h2, h3, ok_more F B g__law_draw g__law_buyer g__law_merged g__law_sum⟩
  have g__law_units : Std P w K mg base 2 "_law_units" ["_law_bids", "_law_prices"] fsLUnits := by
    obtain ⟨fd, h1, h2, h3, F⟩ := m__law_units X Gm c
    exact ⟨_, fd, h1, h2, h3, ok_lunits F B g__law_bests⟩
  have g__law_units_told : Std P w K mg base 4 "_law_units_told" ["_law_bids", "_law_prices"] fsTold2 := by
    obtain ⟨fd, h1, h2, h3, F⟩ := m__law_units_told X Gm c
    exact ⟨_, fd, h1, h2, h3, ok_told2 F B g__law_q g__law_minus g__law_less⟩
  have g__law_is_less : Std P w K mg base 5 "_law_is_less" ["_law_told", "_law_one", "_law_other"] (fsIsLess (He.ga K "Less")) := by
    obtain ⟨fd, h1, h2, h3, F⟩ := m__law_is_less X Gm c
    exact ⟨_, fd, h1, h2, h3, ok_is_less F B lf g__law_are_ratios g__law_units_told⟩
  have g__law_two : Std P w K mg base 6 "_law_two" ["_law_pen_here", "_law_kinds", "_law_scale_here"] fsTwo := by
    obtain ⟨fd, h1, h2, h3, F⟩ := m__law_two X Gm c
    exact ⟨_, fd, h1, h2, h3, ok_two F B g__law_draw g__law_pick g__law_merged g__law_block g__law_list g__law_more⟩
  have UG : UnlikeG P w K mg base (He.ga K "Unlike") := by
    obtain ⟨fd, h1, F⟩ := m_Unlike_init c
    exact ⟨gUnl, E.oex, _, fd, E.uinit, E.ufun, h1, ok_uinit F E.oex gErr E.base uW⟩
  refine ⟨g__law_pen, g__law_draw, g__law_scale, g__law_two, g__law_difference, g__law_cell_places, g__law_units, g__law_made, g_takes_no_less, g__law_is_less, mk_less, mk_bids, E.eq, cL, nLp, nLk, TB, gRow, gUnl, E.xf, uW, He.exm_ok (c.fact 88 (f := .exm "Unlike" "BadRow" false) rfl), He.exm_ok (c.fact 89 (f := .exm "Unlike" "Unlike" true) rfl), ?_, ?_⟩
  · obtain ⟨fd, h1, h2, h3, F⟩ := m__law_fault X Gm c
    exact ⟨_, fd, h1, h3, F⟩
  · obtain ⟨fn, n1, n2, n3, FN⟩ := m_need_kinds_likeness X Gm c
    obtain ⟨fd, h1, h2, h3, F⟩ := m_takes_no_less X Gm c
    exact ⟨_, fd, h1, h2, h3, ok_takes_x F n1 n2 n3 (ok_need_x FN cB nBk UG)⟩
end
/-! ### the def law -/
theorem ok_law {P : Program} {w : World} {K : PySem.W.Frag} {mg : Str → Option Value} {base : Heap} {f : Addr} {fd : FuncData} {C CL CR CU Pt : Addr} (F : FnP K "law" sLaw f fd) (hf : He.fAd K ("law", none) = f) (B : Bn mg) (G : LawG P w K mg base C CL CR CU (He.codeOf K ("law", none)) Pt) :
    FnOk P w K mg base CX0 10 f fd ["_law_script"] (spLaw K Pt) := by
  obtain ⟨oc, od, dV, kV, doc, pm, an, cdv, ct, osl, rfl, lk, hcd, _, _⟩ := F.ex
  obtain ⟨c', rfl⟩ := He.codeIn_ref hcd
  have hc : He.codeOf K ("law", none) = c' := He.codeOf_eq (by rw [hf]; exact lk) rfl
  rw [hc] at G
  refine fn_of (k := 9) lk hcd scLaw (fun vs H Q E h => ?_) (fun A outer s H vs Q E hr h => ?_)
  · obtain ⟨a, ns, rfl, _⟩ := h; rfl
  · obtain ⟨a, ns, rfl, hS, hl, hT, q⟩ := h
    obtain ⟨I, e, n, z⟩ : ∃ I, Ex I H ∧ Den I (scrD K ns) (.ref a) ∧ I Pt = none := by
      rcases hS with hR | hK
      · refine ⟨fun b => if b = a then H a else none, fun b o hb => ?_, ⟨fun b => if b = a then H a else none, Ex.refl _, a, rfl, .inl ?_⟩, ?_⟩
        · have hb : (if b = a then H a else none) = some o := hb
          by_cases hba : b = a
          · rw [if_pos hba] at hb; rw [hba]; exact hb
          · rw [if_neg hba] at hb; cases hb
        · rcases hR with h | ⟨o, h⟩
          · exact .inl ((if_pos rfl).trans h)
          · exact .inr ⟨o, (if_pos rfl).trans h⟩
        · refine if_neg fun z => ?_
          rw [z] at hT
          rcases hR with h | ⟨o, h⟩
          · rw [h] at hT; cases hT
          · rw [h] at hT; cases hT
      · exact ⟨fun _ => none, fun b o hb => (nomatch hb), ⟨fun _ => none, Ex.refl _, a, rfl, .inr hK⟩, rfl⟩
    have o : Owns P w I H [(Pt, .any (.tbl #[]))] := ⟨fun p hp => by rw [List.mem_singleton.mp hp]; exact ⟨z, hT⟩, by simp [adr]⟩
    refine ⟨_, PSs.nox (law_body G B A outer s H E hr ns (by omega)).out, fun H' => q H', I, start_stt e o ⟨_, _, rfl, n, rfl⟩, ?_, ?_, ?_, ?_⟩
    · intro _ _ _ _ _ _ _ z; exact z.elim
    · intro _ _ _ _ _ _ _ _ z; exact z.elim
    · intro _ _ _ _ _ _ _ z; exact z.elim
    · intro _ _ _ _ _ _ _ z; exact z.elim
end AB
namespace AB
open PySem PySem.Spec PyProof.Rows L2

/-- the law's end over facts and a table -/
theorem walk_ofET {l : PySem.W.OpenLaw} {n k : Nat} {q : Program} {loose : List Str} {XP : (Str → Option Value) → Heap → Prop} {YP : World → Heap → Prop} {d : DefRec} {CX : CXT} {x : Str}
    (hn : l.most = some n) (hn2 : n ≤ sizeLine) (hdf : d.params.defaults = []) (hr : Room k callerA)
    (F : ∀ (w : World) (mg : Str → Option Value) (fa : Addr) (h : Heap), YP w h → h.Ns mainGlobals mg → mg d.name = some (.ref fa) →
      ∃ (K : PySem.W.Frag) (fd : FuncData) (c Pt : Addr) (sp : Sp), K.In h ∧ h.get? Pt = some { cls := .none, data := .fields #[] } ∧ K.lookup Pt = none ∧ PySem.W.CodeHd h c Pt ∧ (∀ (s : Shared) (u : Value), BindsTo s fd ⟨[u], []⟩ [(x, u)]) ∧
        (∀ (H : Hp) (a : Addr) (ns : List Int), ns.length ≤ n → H Pt = some (.tbl #[]) → SqL K H a (ns.map V.int) → sp [.ref a] H (fun v _ => v = .bl true) fun _ _ _ => False) ∧
        ∀ base : Heap, K.In base → base.Ns mainGlobals mg → LamX.TabB base mg c Pt → FnOk l.prog w K mg base CX k fa fd [x] sp)
    (hCX : ∀ (H : Hp) (s : Shared) (e : Value) (s' : Shared), CX [] H s (fun _ _ _ => False) e s' → False) :
    PySem.W.WalkO q loose XP YP l.row.toRowW d [] (fun f vs => PySem.call f vs) := by
  refine Att.attach_call hn hdf fun w s₀ s₁ mg mb fa o pm cd doc a vs ns G Y ho hd hcd hmg hobj hints hlen hg => ?_
  obtain ⟨K, fd, c, Pt, sp, KX, hT, nT, hC, hb, hsp, hF⟩ := F w mg fa _ Y G.T.g hmg
  have one : ∀ {φ : Addr × Addr → Prop}, φ (c, Pt) → ∀ p ∈ [(c, Pt)], φ p := fun {φ} z p hp => by rw [List.mem_singleton.mp hp]; exact z
  refine LamX.law_callTs (cs := [(c, Pt)]) KX G.T.g G.T.b G.T.builtins G.T.nolimit hg (one hT) (one nT) (one hC) G.T.bmain hobj hints (Nat.le_trans hlen hn2) hr (fun base k1 k2 k3 => hF base k1 k2 (k3 (c, Pt) (List.mem_singleton.mpr rfl))) hb
    (fun H hH hS => hsp H a ns hlen (hH (c, Pt) (List.mem_singleton.mpr rfl)) hS) fun H e s' => hCX H s₁ e s'
theorem law_facts {P : Program} {w : World} {K : PySem.W.Frag} {h : Heap} {mg : Str → Option Value} {fa : Addr} (X : K.In h) (Gm : h.Ns mainGlobals mg) (hfa : mg ("law" : Str) = some (.ref fa)) (c : SaysL h K) :
    ∃ fd : FuncData, (∀ (s : Shared) (v : Value), BindsTo s fd ⟨[v], []⟩ [("_law_script", v)]) ∧ ∀ base : Heap, K.In base → base.Ns mainGlobals mg → LamX.TabB base mg (He.codeOf K ("law", none)) (He.tabOf K (He.codeOf K ("law", none))) →
      FnOk P w K mg base CX0 10 fa fd ["_law_script"] (spLaw K (He.tabOf K (He.codeOf K ("law", none)))) := by
  obtain ⟨fd, m1, m2, m3, F⟩ := m_law X Gm c.d
  have e := hfa.symm.trans m1
  cases e
  have b := FunD.bindsA (ps := ["_law_script"]) F fun _ _ _ _ _ _ us hl => match us, hl with | [_], _ => rfl
  have hcl : Cls K (He.ga K "Less") := He.cls_ok (c.d.fact 77 (f := .cls "Less") rfl)
  exact ⟨fd, fun s v => b s [v] rfl, fun base k1 k2 tb => ok_law F rfl (bn_of k1 k2 c.d) (lawG_of k1 k2 c.d (exB_ok c.more hcl) tb)⟩
end AB
open PySem PySem.W PySem.Calls PyProof.Rows
theorem PySem.Challenge.cw_allbids_k52_whole_units_never_less_holds : PySem.Challenge.rw_allbids_k52_whole_units_never_less.Holds := by
  refine AB.head_rest ?_
  refine AB.walk_ofET (l := PySem.Challenge.rw_allbids_k52_whole_units_never_less) (n := 63) (k := 10) (x := "_law_script") (CX := L2.CX0) rfl (by decide) AB.law_dflt ⟨rfl, by decide, by decide⟩ ?F (fun _ _ _ _ z => z)
  intro w mg fa h Y G hmg0
  obtain ⟨K, KX, c⟩ := Y
  have hmg : mg ("law" : PySem.Str) = some (.ref fa) := by
    rw [← AB.law_name]
    exact hmg0
  obtain ⟨fd, hb, hF⟩ := AB.law_facts (P := (PySem.Challenge.rw_allbids_k52_whole_units_never_less).prog) (w := w) KX G hmg c
  exact ⟨K, fd, _, _, _, KX, c.empty, c.out, PySem.W.codeHd_of_K KX c.hd, hb, fun H a ns hl hT hS => ⟨a, ns, rfl, hS, hl, hT, fun _ => rfl⟩, hF⟩
