import PyProof.Rows.All
import Wide.All
import OpenK.AllK
import Wide.FinOn
import HandS.Words
import KE.KStateDown
import HandS.Base
import HandS.Call
import HandS.More
import HandS.Defaults
import HandS.Head0
import HandS.Head1
import HandS.Head2
import HandS.HeadHook1
import HandS.HeadHook2
import HandS.HeadHook3
import HandS.ForMost
import HandS.Deep
import HandS.TupAny
import HandS.SortInts
import HandS.IsInst
import HandS.Style
import HandS.DictComp
import HandS.RaiseMore
import HandS.Flow
import HandS.EndBits
import KE.GoesEnum
import KE.GoesMore
import HandS.SortOrd
import PyProof.SeqIndex
import HandS.Conv
import HandS.Ends
import HandS.HeadEnd
import PySem.Challenge.RW_nestsay_k39_stands_of_a_walk
set_option Elab.async false
set_option linter.all false
section
set_option Elab.async false
set_option maxRecDepth 100000
/-! The row's defs by their places. -/
namespace DL
open PySem
def top (i : Nat) : Stmt := PySem.Challenge.pw_nestsay_k39_stands_of_a_walk.main.body.getD i (.Pass ⟨0, 0, 0, 0⟩)
end DL
end
section
set_option Elab.async false
set_option linter.all false
set_option maxRecDepth 100000
set_option maxHeartbeats 0
/-! The head: what the module's names stand for behind the top. -/
namespace HEA
open PySem PySem.Spec PyProof.Rows L2

def dP (n : PySem.Str) (i : Nat) : He.DefD := ⟨(n, none), n, n, defArgs (DL.top i), defBody (DL.top i), defScope (DL.top i), [], []⟩
def dM (m q : PySem.Str) (j : Nat) : He.DefD := ⟨("Course", some m), m, q, defArgs (inClass (DL.top 86) j), defBody (inClass (DL.top 86) j), defScope (inClass (DL.top 86) j), [], []⟩
def fn0 : List He.DefD := [dP "is_whole" 17, dP "made_rooms" 18, dP "is_rooms" 19, dP "is_thing" 20, dP "is_place" 22, dP "lies_in_itself" 23, dP "first_bad" 24, dP "first_ring" 25, dP "made_forest" 26, dP "is_forest" 27, dP "around" 28, dP "room_way" 29, dP "within" 30, dP "put" 31, dP "all_standings" 35, dP "is_standing" 36, dP "turned" 37, dP "standing_in" 38, dP "is_lets" 40, dP "says_right" 41, dP "turned_lets" 42, dP "is_pair" 45, dP "first_wrong" 46, dP "made_book" 47, dP "is_book" 48]
def fn1 : List He.DefD := [dP "common_lets" 49, dP "all_lets" 50, dP "first_broken" 51, dP "keeps" 52, dP "near_of" 54, dP "world_of" 55, dP "without" 56, dP "reached" 57, dP "parts_in" 58, dP "shut_out" 60, dP "over_in" 61, dP "stuck_part" 62, dP "free_in" 63, dP "with_beneath" 65, dP "hangs_whole" 66, dP "stands_let" 67, dP "is_least" 68, dP "least_right" 69, dP "part_with" 71, dP "part_of_holder" 72, dP "is_free_there" 73, dP "turn_rooms" 74, dP "shift_rooms" 75, dP "turn_hangs" 76, dP "deed_hangs" 77]
def fn2 : List He.DefD := [dP "all_put" 78, dP "behind" 79, dP "is_deed" 80, dP "want_granted" 81, dP "hangs" 82, dP "after" 83, dP "outermost" 85, dP "walk" 87, dP "_law_pool" 89, dP "_law_take" 90, dP "_law_one" 91, dP "_law_mixed" 92, dP "_law_grown" 93, dP "_law_saying" 94, dP "_law_climb" 95, dP "_law_standing" 96, dP "_law_turned" 97, dP "_law_every" 98, dP "_law_table" 99, dP "_law_kept" 100, dP "_law_parts" 101, dP "_law_less" 102, dP "_law_over" 103, dP "_law_free" 104, dP "_law_beneath" 105]
def fn3 : List He.DefD := [dP "_law_is_least" 106, dP "_law_part_of" 107, dP "_law_deeds" 108, dP "_law_hangs" 109, dP "_law_hung" 110, dP "_law_behind" 111, dP "_law_number" 112, dP "_law_is_forest" 113, dP "_law_least_made" 114, dP "_law_walk_right" 115, dP "_law_kept_saying" 116, dP "law" 117, dM "__init__" "Course.__init__" 0, dM "do" "Course.do" 1, dM "raise_in" "Course.raise_in" 2, dM "lead" "Course.lead" 3]
def fn : List He.DefD := fn0 ++ fn1 ++ fn2 ++ fn3
def fa0 : List He.Fa := [.free "isinstance", .free "len", .free "range", .free "tuple", .free "list", .free "sorted", .free "all", .free "max", .free "int", .free "bool", .free "str", .free "repr", .free "enumerate", .int "MOST_THINGS" 24, .int "MOST_ROOMS" 4, .int "MOST_SAYINGS" 400, .glo "TURNED", .glo "APART", .glo "Course", .cls "Course", .noat "Course" "world", .noat "Course" "here", .noat "Course" "goal", .noat "Course" "row", .meth "Course" "do", .meth "Course" "raise_in", .meth "Course" "lead", .mkr "Course"]
def fa1 : List He.Fa := [.glo "is_whole", .glo "made_rooms", .glo "is_rooms", .glo "is_thing", .glo "is_place", .glo "lies_in_itself", .glo "first_bad", .glo "first_ring", .glo "made_forest", .glo "is_forest", .glo "around", .glo "room_way", .glo "within", .glo "put", .glo "all_standings", .glo "is_standing", .glo "turned", .glo "standing_in", .glo "is_lets", .glo "says_right", .glo "turned_lets", .glo "is_pair", .glo "first_wrong", .glo "made_book", .glo "is_book"]
def fa2 : List He.Fa := [.glo "common_lets", .glo "all_lets", .glo "first_broken", .glo "keeps", .glo "near_of", .glo "world_of", .glo "without", .glo "reached", .glo "parts_in", .glo "shut_out", .glo "over_in", .glo "stuck_part", .glo "free_in", .glo "with_beneath", .glo "hangs_whole", .glo "stands_let", .glo "is_least", .glo "least_right", .glo "part_with", .glo "part_of_holder", .glo "is_free_there", .glo "turn_rooms", .glo "shift_rooms", .glo "turn_hangs", .glo "deed_hangs"]
def fa3 : List He.Fa := [.glo "all_put", .glo "behind", .glo "is_deed", .glo "want_granted", .glo "hangs", .glo "after", .glo "outermost", .glo "walk", .glo "_law_pool", .glo "_law_take", .glo "_law_one", .glo "_law_mixed", .glo "_law_grown", .glo "_law_saying", .glo "_law_climb", .glo "_law_standing", .glo "_law_turned", .glo "_law_every", .glo "_law_table", .glo "_law_kept", .glo "_law_parts", .glo "_law_less", .glo "_law_over", .glo "_law_free", .glo "_law_beneath"]
def fa4 : List He.Fa := [.glo "_law_is_least", .glo "_law_part_of", .glo "_law_deeds", .glo "_law_hangs", .glo "_law_hung", .glo "_law_behind", .glo "_law_number", .glo "_law_is_forest", .glo "_law_least_made", .glo "_law_walk_right", .glo "_law_kept_saying", .glo "law"]
def fa : List He.Fa := fa0 ++ fa1 ++ fa2 ++ fa3 ++ fa4
def hLaw : Nat := 117
def loose0 : List PySem.Str := ["Refused", "BadRooms", "BadThing", "BadForest", "Ring", "BadBook", "BadSaying", "TooMany", "NotLeast", "BadDeed", "OnFloor", "NotFree", "BadRoom", "Course", "MOST_THINGS", "MOST_ROOMS", "APART", "TURNED", "MOST_SAYINGS", "is_whole"]
def loose1 : List PySem.Str := ["made_rooms", "is_rooms", "is_thing", "is_place", "lies_in_itself", "first_bad", "first_ring", "made_forest", "is_forest", "around", "room_way", "within", "put", "all_standings", "is_standing", "turned", "standing_in", "is_lets", "says_right", "turned_lets"]
def loose2 : List PySem.Str := ["is_pair", "first_wrong", "made_book", "is_book", "common_lets", "all_lets", "first_broken", "keeps", "near_of", "world_of", "without", "reached", "parts_in", "shut_out", "over_in", "stuck_part", "free_in", "with_beneath", "hangs_whole", "stands_let"]
def loose3 : List PySem.Str := ["is_least", "least_right", "part_with", "part_of_holder", "is_free_there", "turn_rooms", "shift_rooms", "turn_hangs", "deed_hangs", "all_put", "behind", "is_deed", "want_granted", "hangs", "after", "outermost", "walk", "_law_pool", "_law_take", "_law_one"]
def loose4 : List PySem.Str := ["_law_mixed", "_law_grown", "_law_saying", "_law_climb", "_law_standing", "_law_turned", "_law_every", "_law_table", "_law_kept", "_law_parts", "_law_less", "_law_over", "_law_free", "_law_beneath", "_law_is_least", "_law_part_of", "_law_deeds", "_law_hangs", "_law_hung", "_law_behind"]
def loose5 : List PySem.Str := ["_law_number", "_law_is_forest", "_law_least_made", "_law_walk_right", "_law_kept_saying"]
def loose : List PySem.Str := loose0 ++ loose1 ++ loose2 ++ loose3 ++ loose4 ++ loose5
/-! ### what is looked at: the module's names, the defs' code, the classes' names -/
def rD : Obj → List Addr
  | ⟨_, _, .dict es _, _⟩ => es.toList.flatMap fun e => He.refV e.val
  | _ => []
def rC : Obj → List Addr
  | ⟨_, _, .func fd, _⟩ => He.refV fd.code
  | ⟨_, _, .cls cd, _⟩ => [cd.ns]
  | _ => []
def along (g : Addr → Option Obj) (r : Obj → List Addr) (as : List Addr) : List Addr := as.flatMap fun a => match g a with
  | some o => r o
  | none => []
/-- told to its end -/
def frL {α : Type} : List Addr → (List Addr → α) → α
  | [], k => k []
  | a :: r, k => HandSHeadRun.frNat a fun a => frL r fun r => k (a :: r)
theorem frL_eq {α : Type} : ∀ (l : List Addr) (k : List Addr → α), frL l k = k l
  | [], _ => rfl
  | a :: r, k => by
    show (HandSHeadRun.frNat a fun a => frL r fun r => k (a :: r)) = _
    rw [HandSHeadRun.frNat_eq, frL_eq r]
def frO {α : Type} (o : Obj) (k : Obj → α) : α := match o with
  | ⟨c, d, dt, sl⟩ => k ⟨c, d, dt, sl⟩
theorem frO_eq {α : Type} (o : Obj) (k : Obj → α) : frO o k = k o := by
  cases o
  rfl
def frK {α : Type} : PySem.W.Frag → (PySem.W.Frag → α) → α
  | [], k => k []
  | (a, o) :: r, k => HandSHeadRun.frNat a fun a => frO o fun o => frK r fun r => k ((a, o) :: r)
theorem frK_eq {α : Type} : ∀ (l : PySem.W.Frag) (k : PySem.W.Frag → α), frK l k = k l
  | [], _ => rfl
  | (a, o) :: r, k => by
    show (HandSHeadRun.frNat a fun a => frO o fun o => frK r fun r => k ((a, o) :: r)) = _
    rw [HandSHeadRun.frNat_eq, frO_eq, frK_eq r]
def picks (g : Addr → Option Obj) : List Addr :=
  frL (along g rD [mainGlobals]) fun l1 => frL (along g rC l1) fun l2 => frL (along g rD l2) fun l3 => mainGlobals :: (l1 ++ (l2 ++ (l3 ++ along g rC l3)))
/-! ### the Hook -/
def tab : He.Tab := (fun K => He.ga K "TURNED", ["apart", "in", "around"])
def more (K : PySem.W.Frag) : Bool := He.tupB K "APART" [.str "apart", .int 0] && He.valsB K (He.ga K "TURNED") [("apart", .str "apart"), ("in", .str "around"), ("around", .str "in")]
abbrev Al : Type := He.AlT × Bool
def obsK (K : PySem.W.Frag) : Al := (He.obsT fa fn [tab] K, more K)
def obsG (g : Addr → Option Obj) : Al := frK (He.frG g (picks g)) obsK
def val (w : World) : Al := (He.valT fn [tab] w, true)
def Says (w : World) (K : PySem.W.Frag) : Prop := obsK K = val w
def hk : PySem.W.Hook where
  α := Al
  obs := fun s => obsG s.heap.get?
  val := val
  says := fun w h => ∃ K : PySem.W.Frag, K.In h ∧ Says w K
  of := fun _ s e => ⟨He.frG s.heap.get? (picks s.heap.get?), He.frG_in, by
    unfold obsG at e
    rw [frK_eq] at e
    exact e⟩
  keeps := fun _ _ _ ⟨K, hK, c⟩ k => ⟨K, PySem.W.Frag.In.keeps hK k, c⟩
def ob (s : PySem.W.SharedT) : Al := obsG (HandSHeadRun.getT s)
theorem ob_eq (s : PySem.W.SharedT) : ob s = hk.obs s.abs := by
  have e : HandSHeadRun.getT s = s.abs.heap.get? := funext fun a => HandSHeadRun.getT_eq s a
  show obsG (HandSHeadRun.getT s) = obsG s.abs.heap.get?
  rw [e]
abbrev R : PySem.W.OpenRow := PySem.W.OpenLaw.row PySem.Challenge.rw_nestsay_k39_stands_of_a_walk
def RunAt (w : World) : Prop := HandSHeadRun.RunEq R (PySem.W.view R.prog [117]) hk ob 9000 loose w
theorem runF (w : World) : RunAt (w.withFollow "special-get-raises" false) := by
  intro os
  kernel_rfl
theorem runT (w : World) : RunAt (w.withFollow "special-get-raises" true) := by
  intro os
  kernel_rfl
theorem run (w : World) : RunAt w := PySem.W.byRow2 "special-get-raises" runF runT w
end HEA
end
section
set_option Elab.async false
set_option maxRecDepth 100000
set_option linter.all false
set_option maxHeartbeats 0
/-! The law from its call: what the head asks besides. -/
namespace HEA
open PySem PySem.W PySem.Calls PyProof.Rows
abbrev qv : Program := view R.prog [117]
abbrev dLaw : DefRec := HandSHeadRun.topDef R.prog 117
theorem close (hc : WalkO qv loose (XL qv []) hk.says R.toRowW dLaw [] fun f vs => PySem.call f vs) : PySem.Challenge.rw_nestsay_k39_stands_of_a_walk.Holds := by
  w_on; o_law
  refine HandSHeadRun.head_any (r := R) (q := qv) (H := hk) (ob := ob) (M := 9000) (loose := loose) (d := dLaw) (kwd := []) ob_eq
    (by kernel_rfl) (fun s => by kernel_rfl) run (by kernel_rfl) (by kernel_rfl) (by kernel_rfl) (by rfl) (by first | assumption | decide +kernel) (by decide +kernel) ⟨rfl, rfl, rfl, rfl, rfl, by decide +kernel⟩ ?hw hc
  case hw => w_witness2
end HEA
end
section
set_option Elab.async false
/-! The plain model: forests, sayings, tables, parts, deeds. No program here. -/
namespace MM
inductive Sd
  | apart | inn (r : Nat) | aro (r : Nat)
  deriving DecidableEq
def Sd.turn : Sd → Sd
  | apart => apart
  | inn r => aro r
  | aro r => inn r
def Sd.isAro : Sd → Bool
  | aro _ => true
  | _ => false
def Sd.isInn : Sd → Bool
  | inn _ => true
  | _ => false
abbrev Plc := Option (Nat × Nat)
abbrev Forest := List Plc
abbrev Tab := Nat → Nat → List Sd
abbrev Say := Nat × Nat × List Sd
def up (f : Forest) (x : Nat) : Plc := f.getD x none
/-- where a place lies: the holders and rooms outward, at most k -/
def climbF (f : Forest) : Nat → Plc → List (Nat × Nat)
  | 0, _ => []
  | _ + 1, none => []
  | k + 1, some p => p :: climbF f k (up f p.1)
def climb (f : Forest) (x : Nat) : List (Nat × Nat) := climbF f f.length (up f x)
def arnd (f : Forest) (x : Nat) : List Nat := (climb f x).map (·.1)
def wayTo (f : Forest) (x y : Nat) : Option Nat := ((climb f x).find? fun p => decide (p.1 = y)).map (·.2)
def stand (f : Forest) (x y : Nat) : Sd :=
  match wayTo f x y with
  | some r => .inn r
  | none => match wayTo f y x with
    | some r => .aro r
    | none => .apart
def insideL (f : Forest) (x : Nat) : List Nat := (List.range f.length).filter fun z => decide (x ∈ arnd f z)
def beneath (f : Forest) (x : Nat) : List Nat := (List.range f.length).filter fun z => decide (z = x ∨ x ∈ arnd f z)
/-- every thing lies, step by step outward, on the floor at last -/
inductive Hangs (f : Forest) : Nat → Prop
  | floor {x : Nat} : up f x = none → Hangs f x
  | on {x h r : Nat} : up f x = some (h, r) → Hangs f h → Hangs f x
structure Good (R : List Nat) (f : Forest) : Prop where
  len : f.length = R.length
  pl : ∀ x h r, up f x = some (h, r) → h < R.length ∧ h ≠ x ∧ r < R.getD h 0
  hang : ∀ x, x < R.length → Hangs f x
def allSd (R : List Nat) (x y : Nat) : List Sd := .apart :: ((List.range (R.getD y 0)).map .inn ++ (List.range (R.getD x 0)).map .aro)
def turned (l : List Sd) : List Sd := (l.filter fun s => decide (s = .apart)) ++ ((l.filter Sd.isAro).map Sd.turn) ++ ((l.filter Sd.isInn).map Sd.turn)
def common (a b : List Sd) : List Sd := a.filter fun s => decide (s ∈ b)
def addSay (L : Tab) (s : Say) : Tab := fun a b => if a = s.1 ∧ b = s.2.1 then common (L a b) s.2.2 else if a = s.2.1 ∧ b = s.1 then common (L a b) (turned s.2.2) else L a b
def tabOf (R : List Nat) (ss : List Say) : Tab := ss.foldl addSay (allSd R)
/-- a saying as `made` demands it: its lets in the order of all -/
def SayOk (R : List Nat) (s : Say) : Prop := s.1 < R.length ∧ s.2.1 < R.length ∧ s.1 ≠ s.2.1 ∧ s.2.2.Sublist (allSd R s.1 s.2.1)
def linked (L : Tab) (a b : Nat) : Bool := decide (Sd.apart ∉ L a b)
def near (n : Nat) (L : Tab) : List (List Nat) := (List.range n).map fun x => (List.range n).filter fun y => decide (y ≠ x) && linked L x y
/-! ### parts -/
inductive Conn (L : Tab) (lot : List Nat) (a : Nat) : Nat → Prop
  | refl : Conn L lot a a
  | step {b c : Nat} : Conn L lot a b → c ∈ lot → c ≠ b → linked L b c = true → Conn L lot a c
open Classical in
noncomputable def partOf (L : Tab) (lot : List Nat) (s : Nat) : List Nat := lot.filter fun x => decide (Conn L lot s x)
theorem partOf_mem {L : Tab} {lot : List Nat} {s x : Nat} : x ∈ partOf L lot s ↔ x ∈ lot ∧ Conn L lot s x := by
  simp [partOf]
open Classical in
/-- what is left behind the part of a -/
noncomputable def rest (L : Tab) (lot : List Nat) (a : Nat) : List Nat := lot.filter fun x => decide (x ∉ partOf L lot a)
noncomputable def partsF (L : Tab) : Nat → List Nat → List (List Nat)
  | 0, _ => []
  | _ + 1, [] => []
  | k + 1, a :: l => partOf L (a :: l) a :: partsF L k (rest L (a :: l) a)
noncomputable def parts (L : Tab) (lot : List Nat) : List (List Nat) := partsF L lot.length lot
theorem self_part {L : Tab} {a : Nat} {l : List Nat} : a ∈ partOf L (a :: l) a := partOf_mem.mpr ⟨List.mem_cons_self, .refl⟩
theorem rest_lt {L : Tab} {a : Nat} {l : List Nat} : (rest L (a :: l) a).length < (a :: l).length := by
  unfold rest
  rw [List.filter_cons_of_neg (by simpa using self_part)]
  have := List.length_filter_le (fun x => decide (x ∉ partOf L (a :: l) a)) l
  simp only [List.length_cons]
  omega
theorem partsF_more {L : Tab} : ∀ (k j : Nat) (lot : List Nat), lot.length ≤ k → lot.length ≤ j → partsF L k lot = partsF L j lot
  | 0, 0, _, _, _ => rfl
  | 0, j + 1, [], _, _ => rfl
  | 0, _ + 1, a :: l, h, _ => by simp at h
  | _ + 1, 0, [], _, _ => rfl
  | _ + 1, 0, a :: l, _, h => by simp at h
  | _ + 1, _ + 1, [], _, _ => rfl
  | k + 1, j + 1, a :: l, hk, hj => by
    have h1 := rest_lt (L := L) (a := a) (l := l)
    simp only [List.length_cons] at hk hj h1
    show _ :: _ = _ :: _
    rw [partsF_more k j _ (by omega) (by omega)]
theorem parts_nil {L : Tab} : parts L [] = [] := rfl
theorem parts_cons {L : Tab} {a : Nat} {l : List Nat} : parts L (a :: l) = partOf L (a :: l) a :: parts L (rest L (a :: l) a) := by
  have h1 := rest_lt (L := L) (a := a) (l := l)
  simp only [List.length_cons] at h1
  show _ :: _ = _ :: _
  rw [partsF_more l.length (rest L (a :: l) a).length _ (by omega) (Nat.le_refl _)]
  rfl
/-! ### what is over a part; who is free -/
def over (R : List Nat) (L : Tab) (t : Nat) (part : List Nat) : List Nat := (List.range (R.getD t 0)).filter fun r => part.all fun c => decide (Sd.aro r ∈ L t c)
def less (lot : List Nat) (t : Nat) : List Nat := lot.filter fun x => decide (x ≠ t)
noncomputable def isFree (R : List Nat) (L : Tab) (lot : List Nat) (t : Nat) : Bool := (parts L (less lot t)).all fun p => decide (over R L t p ≠ [])
noncomputable def freeIn (R : List Nat) (L : Tab) (lot : List Nat) : List Nat := lot.filter fun t => isFree R L lot t
/-! ### deeds -/
abbrev Deed := Bool × Nat × Nat
noncomputable def partW (L : Tab) (lot : List Nat) (x : Nat) : List Nat := ((parts L lot).filter fun p => decide (x ∈ p)).headD []
abbrev Row := List (Nat × Plc)
def lies (f : Forest) (x o : Nat) : Bool := match up f o with
  | some p => decide (p.1 = x)
  | none => false
noncomputable def hangsOf (L : Tab) (f : Forest) (d : Deed) : Row :=
  match up f d.2.1 with
  | none => []
  | some (h, here) =>
    if d.1 = true then (d.2.1, up f h) :: (h, some (d.2.1, d.2.2)) :: ((List.range f.length).filter fun o => lies f d.2.1 o && decide (o ∈ partW L (less (beneath f h) d.2.1) h)).map fun o => (o, some (h, here))
    else [(d.2.1, some (h, d.2.2))]
def putAll (f : Forest) (row : Row) : Forest := row.foldl (fun f p => f.set p.1 p.2) f
noncomputable def behind (L : Tab) (f : Forest) (d : Deed) : Forest := putAll f (hangsOf L f d)
/-! ### least forms -/
structure Least (R : List Nat) (L : Tab) (f : Forest) : Prop where
  good : Good R f
  lets : ∀ x y, x < R.length → y < R.length → x ≠ y → stand f x y ∈ L x y
  whole : ∀ x, x < R.length → parts L (beneath f x) = [beneath f x]
/-- the deeds granted at a form -/
noncomputable def granted (R : List Nat) (L : Tab) (f : Forest) (d : Deed) : Bool :=
  match up f d.2.1 with
  | none => false
  | some (h, here) =>
    if d.1 = true then isFree R L (beneath f h) d.2.1 && decide (d.2.2 ∈ over R L d.2.1 (partW L (less (beneath f h) d.2.1) h))
    else decide (d.2.2 ∈ over R L h (beneath f d.2.1)) && decide (d.2.2 ≠ here)
end MM
end
section
set_option Elab.async false
set_option linter.all false
namespace MM
/-! ### the way outward -/
inductive Full (f : Forest) : Plc → List (Nat × Nat) → Prop
  | nil : Full f none []
  | cons {h r : Nat} {l : List (Nat × Nat)} : Full f (up f h) l → Full f (some (h, r)) ((h, r) :: l)
theorem Full.det {f : Forest} {p : Plc} {l : List (Nat × Nat)} (a : Full f p l) : ∀ {l'}, Full f p l' → l = l' := by
  induction a with
  | nil => intro l' b; cases b; rfl
  | cons _ ih => intro l' b; cases b with | cons b => rw [ih b]
theorem Full.mem {f : Forest} {p : Plc} {l : List (Nat × Nat)} (a : Full f p l) : ∀ {q : Nat × Nat}, q ∈ l → ∃ l', Full f (up f q.1) l' ∧ l'.length < l.length := by
  induction a with
  | nil => intro q h; cases h
  | @cons h r l a ih =>
    intro q hq
    rcases List.mem_cons.mp hq with rfl | hq
    · exact ⟨l, a, by simp⟩
    · obtain ⟨l', h1, h2⟩ := ih hq
      exact ⟨l', h1, by simp; omega⟩
theorem Full.notSelf {f : Forest} {x : Nat} {l : List (Nat × Nat)} (a : Full f (up f x) l) : x ∉ l.map (·.1) := fun h => by
  obtain ⟨q, hq, rfl⟩ := List.mem_map.mp h
  obtain ⟨l', h1, h2⟩ := a.mem hq
  rw [h1.det a] at h2
  omega
theorem Full.nodup {f : Forest} {p : Plc} {l : List (Nat × Nat)} (a : Full f p l) : (l.map (·.1)).Nodup := by
  induction a with
  | nil => simp
  | cons a ih => exact List.nodup_cons.mpr ⟨a.notSelf, ih⟩
theorem nodup_le : ∀ {n : Nat} {l : List Nat}, l.Nodup → (∀ x ∈ l, x < n) → l.length ≤ n
  | 0, [], _, _ => Nat.le_refl _
  | 0, x :: l, _, h => absurd (h x List.mem_cons_self) (by omega)
  | n + 1, l, nd, h => by
    by_cases hm : n ∈ l
    · have h1 := nodup_le (n := n) (l := l.erase n) (nd.erase n) fun x hx => by
        have h2 := h x (List.mem_of_mem_erase hx)
        have h3 : x ≠ n := fun e => by
          subst e
          exact (List.Nodup.not_mem_erase nd) hx
        omega
      have h2 := List.length_erase_of_mem hm
      omega
    · have h1 := nodup_le (n := n) (l := l) nd fun x hx => by
        have h2 := h x hx
        have h3 : x ≠ n := fun e => hm (e ▸ hx)
        omega
      omega
theorem Full.climb {f : Forest} {p : Plc} {l : List (Nat × Nat)} (a : Full f p l) : ∀ {k}, l.length ≤ k → climbF f k p = l := by
  induction a with
  | nil => intro k _; cases k <;> rfl
  | @cons h r l a ih =>
    intro k hk
    cases k with
    | zero => simp at hk
    | succ k =>
      show _ :: climbF f k (up f h) = _
      rw [ih (by simpa using hk)]
theorem Hangs.full {f : Forest} {x : Nat} (h : Hangs f x) : ∃ l, Full f (up f x) l := by
  induction h with
  | floor e => exact ⟨[], e ▸ .nil⟩
  | on e _ ih =>
    obtain ⟨l, hl⟩ := ih
    exact ⟨_, by rw [e]; exact Full.cons hl⟩
section
variable {R : List Nat} {f : Forest}
theorem Good.lt (g : Good R f) {x h r : Nat} (e : up f x = some (h, r)) : h < R.length := (g.pl x h r e).1
theorem Good.fullLt (g : Good R f) {p : Plc} {l : List (Nat × Nat)} (a : Full f p l) (hp : ∀ h r, p = some (h, r) → h < R.length) : ∀ q ∈ l, q.1 < R.length := by
  induction a with
  | nil => intro q h; cases h
  | @cons h r l a ih =>
    intro q hq
    rcases List.mem_cons.mp hq with rfl | hq
    · exact hp _ _ rfl
    · exact ih (fun h' r' e => g.lt e) q hq
theorem up_ge {x : Nat} (h : f.length ≤ x) : up f x = none := by
  unfold up
  rw [List.getD_eq_getElem?_getD, List.getElem?_eq_none h]
  rfl
theorem Good.upLt (g : Good R f) {x h r : Nat} (e : up f x = some (h, r)) : x < R.length := by
  by_cases hx : x < R.length
  · exact hx
  · rw [up_ge (by rw [g.len]; omega)] at e
    cases e
theorem Good.full (g : Good R f) (x : Nat) : Full f (up f x) (climb f x) := by
  by_cases hx : x < R.length
  · obtain ⟨l, hl⟩ := (g.hang x hx).full
    have hle : l.length + 1 ≤ R.length := by
      have h1 := nodup_le (n := R.length) (l := x :: l.map (·.1)) (List.nodup_cons.mpr ⟨hl.notSelf, hl.nodup⟩) fun y hy => by
        rcases List.mem_cons.mp hy with rfl | hy
        · exact hx
        · obtain ⟨q, hq, rfl⟩ := List.mem_map.mp hy
          exact g.fullLt hl (fun h r e => g.lt e) q hq
      simpa using h1
    have : climb f x = l := hl.climb (by rw [g.len]; omega)
    rw [this]
    exact hl
  · have e := up_ge (f := f) (x := x) (by rw [g.len]; omega)
    unfold MM.climb
    rw [e]
    have : climbF f f.length none = [] := by cases f.length <;> rfl
    rw [this]
    exact .nil
theorem Good.climb_some (g : Good R f) {x h r : Nat} (e : up f x = some (h, r)) : climb f x = (h, r) :: climb f h := by
  have h1 := g.full x
  rw [e] at h1
  exact h1.det (.cons (g.full h))
theorem climb_none {x : Nat} (e : up f x = none) : climb f x = [] := by
  unfold MM.climb
  rw [e]
  cases f.length <;> rfl
theorem Good.notArnd (g : Good R f) (x : Nat) : x ∉ arnd f x := (g.full x).notSelf
theorem Good.arndLt (g : Good R f) {x y : Nat} (h : y ∈ arnd f x) : y < R.length := by
  obtain ⟨q, hq, rfl⟩ := List.mem_map.mp h
  exact g.fullLt (g.full x) (fun _ _ e => g.lt e) q hq
theorem Good.arndNd (g : Good R f) (x : Nat) : (arnd f x).Nodup := (g.full x).nodup
theorem Good.climb_len (g : Good R f) (x : Nat) : (climb f x).length ≤ R.length := by
  have h1 := nodup_le (n := R.length) (g.arndNd x) fun y hy => g.arndLt hy
  simpa [arnd] using h1
/-- x in room j of y -/
theorem mem_way (g : Good R f) {x y j : Nat} : wayTo f x y = some j ↔ (y, j) ∈ climb f x := by
  unfold wayTo
  rw [Option.map_eq_some_iff]
  constructor
  · rintro ⟨q, h1, rfl⟩
    have h2 := List.find?_some h1
    have h3 := List.mem_of_find?_eq_some h1
    have : q.1 = y := of_decide_eq_true h2
    subst this
    exact h3
  · intro h
    cases e : (climb f x).find? fun p => decide (p.1 = y) with
    | none =>
      have := List.find?_eq_none.mp e _ h
      simp at this
    | some q =>
      have h2 : q.1 = y := of_decide_eq_true (List.find?_some (p := fun p : Nat × Nat => decide (p.1 = y)) e)
      have h3 := List.mem_of_find?_eq_some e
      refine ⟨q, rfl, ?_⟩
      have nd := g.arndNd x
      -- two entries of one holder are one
      have inj : ∀ {l : List (Nat × Nat)}, (l.map (·.1)).Nodup → ∀ {a b : Nat × Nat}, a ∈ l → b ∈ l → a.1 = b.1 → a = b := by
        intro l
        induction l with
        | nil => intro _ a b h; cases h
        | cons c l ih =>
          intro nd a b ha hb hab
          obtain ⟨n1, n2⟩ := List.nodup_cons.mp nd
          rcases List.mem_cons.mp ha with rfl | ha' <;> rcases List.mem_cons.mp hb with rfl | hb'
          · rfl
          · exact absurd (List.mem_map.mpr ⟨b, hb', hab.symm⟩) n1
          · exact (n1 (List.mem_map.mpr ⟨a, ha', hab⟩)).elim
          · exact ih n2 ha' hb' hab
      have := inj nd h3 h (by rw [h2])
      rw [this]
theorem way_none {x y : Nat} : wayTo f x y = none ↔ y ∉ arnd f x := by
  unfold wayTo arnd
  rw [Option.map_eq_none_iff, List.find?_eq_none]
  simp only [List.mem_map, not_exists, not_and, decide_eq_true_eq]
end
end MM
end
section
set_option Elab.async false
set_option linter.all false
namespace MM
/-! ### tables that tell each pair from both sides -/
structure SymT (n : Nat) (L : Tab) : Prop where
  turn : ∀ a b s, a < n → b < n → a ≠ b → (s ∈ L a b ↔ s.turn ∈ L b a)
theorem SymT.link {n : Nat} {L : Tab} (S : SymT n L) {a b : Nat} (ha : a < n) (hb : b < n) (h : a ≠ b) : linked L a b = linked L b a := by
  unfold linked
  have := S.turn a b .apart ha hb h
  have e : Sd.turn .apart = .apart := rfl
  rw [e] at this
  simp [this]
/-! ### connection -/
section
variable {n : Nat} {L : Tab} {lot : List Nat}
theorem Conn.trans {a b c : Nat} (h1 : Conn L lot a b) (h2 : Conn L lot b c) : Conn L lot a c := by
  induction h2 with
  | refl => exact h1
  | step _ h3 h4 h5 ih => exact .step ih h3 h4 h5
theorem Conn.mem {a b : Nat} (h : Conn L lot a b) (ha : a ∈ lot) : b ∈ lot := by
  cases h with
  | refl => exact ha
  | step _ h _ _ => exact h
theorem Conn.symm (S : SymT n L) (hl : ∀ x ∈ lot, x < n) {a b : Nat} (ha : a ∈ lot) (h : Conn L lot a b) : Conn L lot b a := by
  induction h with
  | refl => exact .refl
  | @step b c h1 h2 h3 h4 ih =>
    have hb := h1.mem ha
    refine Conn.trans (.step .refl hb h3.symm ?_) ih
    rw [S.link (hl c h2) (hl b hb) h3]
    exact h4
theorem Conn.mono {lot' : List Nat} (hs : ∀ x ∈ lot, x ∈ lot') {a b : Nat} (h : Conn L lot a b) : Conn L lot' a b := by
  induction h with
  | refl => exact .refl
  | step _ h2 h3 h4 ih => exact .step ih (hs _ h2) h3 h4
/-- a connection stays within the part -/
theorem Conn.within {a b : Nat} (h : Conn L lot a b) (ha : a ∈ lot) : Conn L (partOf L lot a) a b := by
  induction h with
  | refl => exact .refl
  | @step b c h1 h2 h3 h4 ih => exact .step ih (partOf_mem.mpr ⟨h2, .step h1 h2 h3 h4⟩) h3 h4
theorem partOf_eq (S : SymT n L) (hl : ∀ x ∈ lot, x < n) {a b : Nat} (ha : a ∈ lot) (h : Conn L lot a b) : partOf L lot b = partOf L lot a := by
  unfold partOf
  apply List.filter_congr
  intro x hx
  have hb := h.mem ha
  have : Conn L lot b x ↔ Conn L lot a x := ⟨fun k => h.trans k, fun k => (h.symm S hl ha).trans k⟩
  simp [this]
theorem partOf_self {a : Nat} (ha : a ∈ lot) : a ∈ partOf L lot a := partOf_mem.mpr ⟨ha, .refl⟩
theorem partOf_sub {a x : Nat} (h : x ∈ partOf L lot a) : x ∈ lot := (partOf_mem.mp h).1
/-- of one piece -/
def One (L : Tab) (lot : List Nat) : Prop := ∀ a ∈ lot, ∀ b ∈ lot, Conn L lot a b
theorem partOf_one (S : SymT n L) (hl : ∀ x ∈ lot, x < n) {a : Nat} (ha : a ∈ lot) : One L (partOf L lot a) := by
  intro x hx y hy
  obtain ⟨hx1, hx2⟩ := partOf_mem.mp hx
  obtain ⟨hy1, hy2⟩ := partOf_mem.mp hy
  have h1 : Conn L lot x y := (hx2.symm S hl ha).trans hy2
  have h2 := h1.within hx1
  rwa [partOf_eq S hl ha hx2] at h2
theorem filter_all {α : Type} {l : List α} {p : α → Bool} (h : ∀ x ∈ l, p x = true) : l.filter p = l := List.filter_eq_self.mpr h
theorem partOf_whole {a : Nat} (h : One L lot) (ha : a ∈ lot) : partOf L lot a = lot := by
  unfold partOf
  apply filter_all
  intro x hx
  simpa using h a ha x hx
theorem mem_rest {a x : Nat} {l : List Nat} : x ∈ rest L (a :: l) a ↔ x ∈ a :: l ∧ ¬ Conn L (a :: l) a x := by
  unfold rest
  rw [List.mem_filter, decide_eq_true_eq, partOf_mem]
  constructor
  · rintro ⟨h1, h2⟩
    exact ⟨h1, fun h => h2 ⟨h1, h⟩⟩
  · rintro ⟨h1, h2⟩
    exact ⟨h1, fun h => h2 h.2⟩
/-- from what is left one does not get back -/
theorem Conn.inRest (S : SymT n L) {a : Nat} {l : List Nat} (hl : ∀ x ∈ a :: l, x < n) {x y : Nat} (hx : x ∈ rest L (a :: l) a) (h : Conn L (a :: l) x y) : Conn L (rest L (a :: l) a) x y := by
  induction h with
  | refl => exact .refl
  | @step b c h1 h2 h3 h4 ih =>
    refine .step ih (mem_rest.mpr ⟨h2, fun hc => ?_⟩) h3 h4
    obtain ⟨hx1, hx2⟩ := mem_rest.mp hx
    have h5 : Conn L (a :: l) x c := .step h1 h2 h3 h4
    exact hx2 (hc.trans (h5.symm S hl hx1))
open Classical in
theorem rest_part (S : SymT n L) {a : Nat} {l : List Nat} (hl : ∀ x ∈ a :: l, x < n) {x : Nat} (hx : x ∈ rest L (a :: l) a) : partOf L (rest L (a :: l) a) x = partOf L (a :: l) x := by
  obtain ⟨hx1, hx2⟩ := mem_rest.mp hx
  show (List.filter _ (a :: l)).filter _ = (a :: l).filter _
  rw [List.filter_filter]
  apply List.filter_congr
  intro y hy
  have : (Conn L (rest L (a :: l) a) x y ∧ y ∉ partOf L (a :: l) a) ↔ Conn L (a :: l) x y := by
    constructor
    · rintro ⟨h1, _⟩
      exact h1.mono fun z hz => (mem_rest.mp hz).1
    · intro h
      refine ⟨h.inRest S hl hx, fun hc => ?_⟩
      exact hx2 ((partOf_mem.mp hc).2.trans (h.symm S hl hx1))
  have e1 : (decide (Conn L (rest L (a :: l) a) x y) && decide (y ∉ partOf L (a :: l) a)) = decide (Conn L (a :: l) x y) := by
    rw [Bool.eq_iff_iff]
    simpa using this
  simpa using e1
/-- the parts are the parts of its things -/
theorem mem_partsF (S : SymT n L) : ∀ (k : Nat) (lot : List Nat), lot.length ≤ k → (∀ x ∈ lot, x < n) → ∀ P, P ∈ partsF L k lot ↔ ∃ s ∈ lot, P = partOf L lot s
  | 0, [], _, _, P => by simp [partsF]
  | 0, a :: l, h, _, P => by simp at h
  | k + 1, [], _, _, P => by simp [partsF]
  | k + 1, a :: l, h, hl, P => by
    have h1 := rest_lt (L := L) (a := a) (l := l)
    have hr : ∀ x ∈ rest L (a :: l) a, x < n := fun x hx => hl x (mem_rest.mp hx).1
    have ih := mem_partsF S k (rest L (a :: l) a) (by simp only [List.length_cons] at h h1; omega) hr P
    show P ∈ partOf L (a :: l) a :: partsF L k (rest L (a :: l) a) ↔ _
    rw [List.mem_cons, ih]
    constructor
    · rintro (rfl | ⟨s, hs, rfl⟩)
      · exact ⟨a, List.mem_cons_self, rfl⟩
      · exact ⟨s, (mem_rest.mp hs).1, rest_part S hl hs⟩
    · rintro ⟨s, hs, rfl⟩
      by_cases hc : Conn L (a :: l) a s
      · exact .inl (partOf_eq S hl List.mem_cons_self hc)
      · exact .inr ⟨s, mem_rest.mpr ⟨hs, hc⟩, (rest_part S hl (mem_rest.mpr ⟨hs, hc⟩)).symm⟩
theorem mem_parts_iff (S : SymT n L) {lot : List Nat} (hl : ∀ x ∈ lot, x < n) {P : List Nat} : P ∈ parts L lot ↔ ∃ s ∈ lot, P = partOf L lot s := mem_partsF S _ _ (Nat.le_refl _) hl P
theorem parts_whole (h : One L lot) (hne : lot ≠ []) : parts L lot = [lot] := by
  cases lot with
  | nil => exact absurd rfl hne
  | cons a l =>
    have h1 := partOf_whole h List.mem_cons_self
    rw [parts_cons, h1]
    have : rest L (a :: l) a = [] := by
      unfold rest
      rw [h1, List.filter_eq_nil_iff]
      intro x hx
      simp only [hx, not_true_eq_false, decide_false, Bool.false_eq_true, not_false_eq_true]
    rw [this]
    rfl
theorem one_of_parts (S : SymT n L) (hl : ∀ x ∈ lot, x < n) (h : parts L lot = [lot]) : One L lot := by
  cases lot with
  | nil =>
    intro a ha
    cases ha
  | cons a l =>
    rw [parts_cons] at h
    have h1 : partOf L (a :: l) a = a :: l := (List.cons.inj h).1
    have := partOf_one S hl (a := a) List.mem_cons_self
    rwa [h1] at this
theorem partW_eq (S : SymT n L) (hl : ∀ x ∈ lot, x < n) {x : Nat} (hx : x ∈ lot) : partW L lot x = partOf L lot x := by
  unfold partW
  cases e : (parts L lot).filter fun p => decide (x ∈ p) with
  | nil =>
    have := List.filter_eq_nil_iff.mp e _ ((mem_parts_iff S hl).mpr ⟨x, hx, rfl⟩)
    exact absurd (partOf_self hx) (by simpa using this)
  | cons q r =>
    have hq : q ∈ (parts L lot).filter fun p => decide (x ∈ p) := by rw [e]; exact List.mem_cons_self
    obtain ⟨h1, h2⟩ := List.mem_filter.mp hq
    obtain ⟨s, hs, rfl⟩ := (mem_parts_iff S hl).mp h1
    have h3 := (partOf_mem.mp (show x ∈ partOf L lot s by simpa using h2)).2
    show partOf L lot s = _
    exact (partOf_eq S hl hs h3).symm
end
end MM
end
section
set_option Elab.async false
set_option linter.all false
namespace MM
section
variable {R : List Nat} {L : Tab} {f : Forest}
theorem Full.suffix (g : Good R f) {p : Plc} {l : List (Nat × Nat)} (a : Full f p l) : ∀ {y j : Nat}, (y, j) ∈ l → ∃ pre, l = pre ++ (y, j) :: MM.climb f y := by
  induction a with
  | nil => intro y j h; cases h
  | @cons h r l a ih =>
    intro y j hy
    rcases List.mem_cons.mp hy with e | hy
    · cases e
      exact ⟨[], by rw [(g.full h).det a]; rfl⟩
    · obtain ⟨pre, e⟩ := ih hy
      exact ⟨(h, r) :: pre, by rw [e]; rfl⟩
theorem mem_arnd {x y : Nat} : x ∈ arnd f y ↔ ∃ j, (x, j) ∈ climb f y := by
  unfold arnd
  rw [List.mem_map]
  constructor
  · rintro ⟨⟨a, b⟩, h, rfl⟩
    exact ⟨b, h⟩
  · rintro ⟨j, h⟩
    exact ⟨_, h, rfl⟩
theorem arnd_some (g : Good R f) {x h r : Nat} (e : up f x = some (h, r)) : arnd f x = h :: arnd f h := by
  unfold arnd
  rw [g.climb_some e]
  rfl
theorem arnd_none {x : Nat} (e : up f x = none) : arnd f x = [] := by
  unfold arnd
  rw [climb_none e]
  rfl
/-- what is outward of what is outward -/
theorem room_trans (g : Good R f) {x y z j : Nat} (h1 : (x, j) ∈ climb f y) (h2 : y ∈ arnd f z) : (x, j) ∈ climb f z := by
  obtain ⟨i, h2⟩ := mem_arnd.mp h2
  obtain ⟨pre, e⟩ := (g.full z).suffix g h2
  rw [e]
  exact List.mem_append_right _ (List.mem_cons_of_mem _ h1)
theorem arnd_trans (g : Good R f) {x y z : Nat} (h1 : x ∈ arnd f y) (h2 : y ∈ arnd f z) : x ∈ arnd f z := by
  obtain ⟨j, h1⟩ := mem_arnd.mp h1
  exact mem_arnd.mpr ⟨j, room_trans g h1 h2⟩
theorem arnd_comp (g : Good R f) {x y z : Nat} (h1 : x ∈ arnd f z) (h2 : y ∈ arnd f z) : x = y ∨ x ∈ arnd f y ∨ y ∈ arnd f x := by
  obtain ⟨i, h1⟩ := mem_arnd.mp h1
  obtain ⟨j, h2⟩ := mem_arnd.mp h2
  obtain ⟨pre, e⟩ := (g.full z).suffix g h1
  obtain ⟨pre2, e2⟩ := (g.full z).suffix g h2
  rw [e] at h2
  rcases List.mem_append.mp h2 with h2 | h2
  · -- y stands ahead of x: x outward of y
    rw [e] at e2
    rcases List.append_eq_append_iff.mp e2 with ⟨a, ha, hb⟩ | ⟨a, ha, hb⟩
    · cases a with
      | nil =>
        simp at hb
        exact .inl hb.1.1
      | cons c a =>
        rw [List.cons_append, List.cons.injEq] at hb
        have : (y, j) ∈ climb f x := by rw [hb.2]; simp
        exact .inr (.inr (mem_arnd.mpr ⟨j, this⟩))
    · cases a with
      | nil =>
        simp at hb
        exact .inl hb.1.1.symm
      | cons c a =>
        rw [List.cons_append, List.cons.injEq] at hb
        have : (x, i) ∈ climb f y := by rw [hb.2]; simp
        exact .inr (.inl (mem_arnd.mpr ⟨i, this⟩))
  · rcases List.mem_cons.mp h2 with h2 | h2
    · cases h2
      exact .inl rfl
    · exact .inr (.inr (mem_arnd.mpr ⟨j, h2⟩))
theorem arnd_anti (g : Good R f) {x y : Nat} (h : x ∈ arnd f y) : y ∉ arnd f x := fun h2 => g.notArnd x (arnd_trans g h h2)
theorem arnd_ne (g : Good R f) {x y : Nat} (h : x ∈ arnd f y) : x ≠ y := fun e => g.notArnd x (by rw [e] at h; rw [e]; exact h)
theorem arnd_in (g : Good R f) {x y : Nat} (h : x ∈ arnd f y) : y < R.length := by
  cases e : up f y with
  | none => rw [arnd_none e] at h; cases h
  | some p => exact g.upLt (h := p.1) (r := p.2) e
theorem room_one (g : Good R f) {x i j y : Nat} (h1 : (x, i) ∈ climb f y) (h2 : (x, j) ∈ climb f y) : i = j := by
  have e1 := (mem_way g).mpr h1
  have e2 := (mem_way g).mpr h2
  rw [e1] at e2
  exact Option.some.inj e2
theorem room_lt (g : Good R f) {p : Plc} {l : List (Nat × Nat)} (a : Full f p l) (hp : ∀ h r, p = some (h, r) → r < R.getD h 0) : ∀ q ∈ l, q.2 < R.getD q.1 0 := by
  induction a with
  | nil => intro q h; cases h
  | @cons h r l a ih =>
    intro q hq
    rcases List.mem_cons.mp hq with rfl | hq
    · exact hp _ _ rfl
    · exact ih (fun h' r' e => (g.pl _ _ _ e).2.2) q hq
theorem climb_room (g : Good R f) {x y j : Nat} (h : (x, j) ∈ climb f y) : j < R.getD x 0 := room_lt g (g.full y) (fun h r e => (g.pl _ _ _ e).2.2) _ h
/-! ### standings -/
theorem stand_inn (g : Good R f) {x y j : Nat} (h : (y, j) ∈ climb f x) : stand f x y = .inn j := by
  unfold stand
  rw [(mem_way g).mpr h]
theorem stand_aro (g : Good R f) {x y j : Nat} (h : (x, j) ∈ climb f y) : stand f x y = .aro j := by
  have h1 : wayTo f x y = none := way_none.mpr (arnd_anti g (mem_arnd.mpr ⟨j, h⟩))
  unfold stand
  rw [h1, (mem_way g).mpr h]
theorem stand_apart (g : Good R f) {x y : Nat} (h1 : y ∉ arnd f x) (h2 : x ∉ arnd f y) : stand f x y = .apart := by
  unfold stand
  rw [way_none.mpr h1, way_none.mpr h2]
theorem stand_comp (g : Good R f) {x y : Nat} (h : stand f x y ≠ .apart) : y ∈ arnd f x ∨ x ∈ arnd f y := by
  by_cases h1 : y ∈ arnd f x
  · exact .inl h1
  · by_cases h2 : x ∈ arnd f y
    · exact .inr h2
    · exact absurd (stand_apart g h1 h2) h
theorem stand_turn (g : Good R f) (x y : Nat) : stand f y x = (stand f x y).turn := by
  by_cases h1 : y ∈ arnd f x
  · obtain ⟨j, h⟩ := mem_arnd.mp h1
    rw [stand_inn g h, stand_aro g h]
    rfl
  · by_cases h2 : x ∈ arnd f y
    · obtain ⟨j, h⟩ := mem_arnd.mp h2
      rw [stand_inn g h, stand_aro g h]
      rfl
    · rw [stand_apart g h1 h2, stand_apart g h2 h1]
      rfl
def Keeps (R : List Nat) (L : Tab) (f : Forest) : Prop := ∀ x y, x < R.length → y < R.length → x ≠ y → stand f x y ∈ L x y
theorem link_comp (g : Good R f) (K : Keeps R L f) {a b : Nat} (ha : a < R.length) (hb : b < R.length) (hn : a ≠ b) (hl : linked L a b = true) : b ∈ arnd f a ∨ a ∈ arnd f b := by
  refine stand_comp g fun e => ?_
  have := K a b ha hb hn
  rw [e] at this
  simp [linked] at hl
  exact hl this
/-- below or the same -/
abbrev Le (f : Forest) (z a : Nat) : Prop := z = a ∨ z ∈ arnd f a
theorem Le.trans (g : Good R f) {x y z : Nat} (h1 : Le f x y) (h2 : Le f y z) : Le f x z := by
  rcases h1 with rfl | h1
  · exact h2
  · rcases h2 with rfl | h2
    · exact .inr h1
    · exact .inr (arnd_trans g h1 h2)
theorem Le.comp (g : Good R f) {x y z : Nat} (h1 : Le f x z) (h2 : Le f y z) : Le f x y ∨ Le f y x := by
  rcases h1 with rfl | h1
  · exact .inr h2
  · rcases h2 with rfl | h2
    · exact .inl (.inr h1)
    · rcases arnd_comp g h1 h2 with h | h | h
      · exact .inl (.inl h)
      · exact .inl (.inr h)
      · exact .inr (.inr h)
section
variable {lot : List Nat}
/-- what connects two things of a lot has one around both -/
theorem conn_bound (g : Good R f) (K : Keeps R L f) (hl : ∀ x ∈ lot, x < R.length) {a b : Nat} (ha : a ∈ lot) (h : Conn L lot a b) : ∃ z ∈ lot, Le f z a ∧ Le f z b := by
  induction h with
  | refl => exact ⟨a, ha, .inl rfl, .inl rfl⟩
  | @step b c h1 h2 h3 h4 ih =>
    obtain ⟨z, hz, hza, hzb⟩ := ih
    have hb := h1.mem ha
    rcases link_comp g K (hl b hb) (hl c h2) h3.symm h4 with h | h
    · -- c around b
      rcases Le.comp g hzb (.inr h : Le f c b) with q | q
      · exact ⟨z, hz, hza, q⟩
      · exact ⟨c, h2, q.trans g hza, .inl rfl⟩
    · exact ⟨z, hz, hza, hzb.trans g (.inr h)⟩
theorem min_len (f : Forest) : ∀ {l : List Nat}, l ≠ [] → ∃ t ∈ l, ∀ p ∈ l, (climb f t).length ≤ (climb f p).length
  | [], h => absurd rfl h
  | [a], _ => ⟨a, by simp, fun p hp => by have : p = a := by simpa using hp
                                          rw [this]; exact Nat.le_refl _⟩
  | a :: b :: l, _ => by
    obtain ⟨t, ht, hm⟩ := min_len f (l := b :: l) (by simp)
    by_cases h : (climb f a).length ≤ (climb f t).length
    · refine ⟨a, List.mem_cons_self, fun p hp => ?_⟩
      rcases List.mem_cons.mp hp with rfl | hp
      · exact Nat.le_refl _
      · exact Nat.le_trans h (hm p hp)
    · refine ⟨t, List.mem_cons_of_mem _ ht, fun p hp => ?_⟩
      rcases List.mem_cons.mp hp with rfl | hp
      · omega
      · exact hm p hp
theorem climb_lt (g : Good R f) {x y : Nat} (h : x ∈ arnd f y) : (climb f x).length < (climb f y).length := by
  obtain ⟨j, h⟩ := mem_arnd.mp h
  obtain ⟨pre, e⟩ := (g.full y).suffix g h
  rw [e]
  simp
  omega
/-- the outermost of a lot of one piece -/
theorem has_top (g : Good R f) (K : Keeps R L f) (hl : ∀ x ∈ lot, x < R.length) (ho : One L lot) (hne : lot ≠ []) : ∃ t ∈ lot, ∀ p ∈ lot, Le f t p := by
  obtain ⟨t, ht, hm⟩ := min_len f hne
  refine ⟨t, ht, fun p hp => ?_⟩
  obtain ⟨z, hz, h1, h2⟩ := conn_bound g K hl ht (ho t ht p hp)
  rcases h1 with rfl | h1
  · exact h2
  · have := climb_lt g h1
    have := hm z hz
    omega
theorem mem_over {t j : Nat} : j ∈ over R L t lot ↔ j < R.getD t 0 ∧ ∀ q ∈ lot, Sd.aro j ∈ L t q := by
  unfold over
  rw [List.mem_filter, List.mem_range, List.all_eq_true]
  simp
theorem over_of (g : Good R f) (K : Keeps R L f) (hl : ∀ x ∈ lot, x < R.length) {t j : Nat} (ht : t < R.length) (hne : lot ≠ []) (h : ∀ q ∈ lot, (t, j) ∈ climb f q) : j ∈ over R L t lot := by
  refine mem_over.mpr ⟨?_, fun q hq => ?_⟩
  · cases lot with
    | nil => exact absurd rfl hne
    | cons a l => exact climb_room g (h a List.mem_cons_self)
  · have hn : t ≠ q := arnd_ne g (mem_arnd.mpr ⟨j, h q hq⟩)
    have := K t q ht (hl q hq) hn
    rwa [stand_aro g (h q hq)] at this
theorem mem_less {t x : Nat} : x ∈ less lot t ↔ x ∈ lot ∧ x ≠ t := by
  unfold less
  rw [List.mem_filter]
  simp
/-- the outermost is free -/
theorem top_free (S : SymT R.length L) (g : Good R f) (K : Keeps R L f) (hl : ∀ x ∈ lot, x < R.length) {t : Nat} (ht : t ∈ lot) (h : ∀ p ∈ lot, Le f t p) : isFree R L lot t = true := by
  unfold isFree
  rw [List.all_eq_true]
  intro P hP
  have hl' : ∀ x ∈ less lot t, x < R.length := fun x hx => hl x (mem_less.mp hx).1
  obtain ⟨s, hs, rfl⟩ := (mem_parts_iff S hl').mp hP
  have hP1 : ∀ x ∈ partOf L (less lot t) s, x < R.length := fun x hx => hl' x (partOf_sub hx)
  have hPne : partOf L (less lot t) s ≠ [] := fun e => by
    have := partOf_self (L := L) hs
    rw [e] at this
    cases this
  obtain ⟨u, hu, hu2⟩ := has_top g K hP1 (partOf_one S hl' hs) hPne
  obtain ⟨hu3, hu4⟩ := mem_less.mp (partOf_sub hu)
  have htu : t ∈ arnd f u := (h u hu3).resolve_left fun e => hu4 e.symm
  obtain ⟨j, hj⟩ := mem_arnd.mp htu
  have : j ∈ over R L t (partOf L (less lot t) s) := over_of g K hP1 (hl t ht) hPne fun q hq => by
    rcases hu2 q hq with rfl | h2
    · exact hj
    · exact room_trans g hj h2
  simp only [decide_eq_true_eq]
  intro e
  rw [e] at this
  cases this
theorem over_mono {lot' : List Nat} (hs : ∀ x ∈ lot', x ∈ lot) {t j : Nat} (h : j ∈ over R L t lot) : j ∈ over R L t lot' := by
  obtain ⟨h1, h2⟩ := mem_over.mp h
  exact mem_over.mpr ⟨h1, fun q hq => h2 q (hs q hq)⟩
theorem part_mono {lot' : List Nat} (hs : ∀ x ∈ lot', x ∈ lot) {s x : Nat} (h : x ∈ partOf L lot' s) : x ∈ partOf L lot s := by
  obtain ⟨h1, h2⟩ := partOf_mem.mp h
  exact partOf_mem.mpr ⟨hs x h1, h2.mono hs⟩
/-- free in a lot, free in less -/
theorem free_sub (S : SymT R.length L) (hl : ∀ x ∈ lot, x < R.length) {lot' : List Nat} (hs : ∀ x ∈ lot', x ∈ lot) {x : Nat} (h : isFree R L lot x = true) : isFree R L lot' x = true := by
  unfold isFree at h ⊢
  rw [List.all_eq_true] at h ⊢
  intro P hP
  have hs' : ∀ y ∈ less lot' x, y ∈ less lot x := fun y hy => mem_less.mpr ⟨hs y (mem_less.mp hy).1, (mem_less.mp hy).2⟩
  have hl' : ∀ y ∈ less lot' x, y < R.length := fun y hy => hl y (hs y (mem_less.mp hy).1)
  obtain ⟨s, hsm, rfl⟩ := (mem_parts_iff S hl').mp hP
  have h1 := h _ ((mem_parts_iff S fun y hy => hl y (mem_less.mp hy).1).mpr ⟨s, hs' s hsm, rfl⟩)
  simp only [decide_eq_true_eq] at h1 ⊢
  cases e : over R L x (partOf L (less lot x) s) with
  | nil => exact absurd e h1
  | cons j r =>
    have : j ∈ over R L x (partOf L (less lot' x) s) := over_mono (fun y hy => part_mono hs' hy) (by rw [e]; exact List.mem_cons_self)
    intro e2
    rw [e2] at this
    cases this
end
end
end MM
end
section
set_option Elab.async false
set_option linter.all false
namespace MM
/-- the lot P hangs at the place pl, built as forms are: a top t, and under it, each in a room over it, the parts of what is left -/
inductive Made (R : List Nat) (L : Tab) (f : Forest) : List Nat → Plc → Prop
  | mk {P : List Nat} {pl : Plc} (t : Nat) (j : Nat → Nat) : t ∈ P → up f t = pl → (∀ s ∈ less P t, j s ∈ over R L t (partOf L (less P t) s)) →
      (∀ s ∈ less P t, Made R L f (partOf L (less P t) s) (some (t, j s))) → Made R L f P pl
section
variable {R : List Nat} {L : Tab} {f : Forest}
theorem Made.hangs {P : List Nat} {pl : Plc} (m : Made R L f P pl) : (∀ h r, pl = some (h, r) → Hangs f h) → ∀ y ∈ P, Hangs f y := by
  induction m with
  | @mk P pl t j ht hu _ _ ih =>
    intro hp y hy
    have htop : Hangs f t := by
      cases e : up f t with
      | none => exact .floor e
      | some p => exact .on (h := p.1) (r := p.2) e (hp p.1 p.2 (hu ▸ e))
    by_cases h : y = t
    · subst h
      exact htop
    · have hy' : y ∈ less P t := mem_less.mpr ⟨hy, h⟩
      exact ih y hy' (fun h' r' e => by cases e; exact htop) y (partOf_self hy')
theorem Made.places {P : List Nat} {pl : Plc} (m : Made R L f P pl) : ∀ y ∈ P, up f y = pl ∨ ∃ t r, up f y = some (t, r) ∧ t ∈ P ∧ t ≠ y ∧ r < R.getD t 0 := by
  induction m with
  | @mk P pl t j ht hu ho _ ih =>
    intro y hy
    by_cases h : y = t
    · subst h
      exact .inl hu
    · have hy' : y ∈ less P t := mem_less.mpr ⟨hy, h⟩
      rcases ih y hy' y (partOf_self hy') with e | ⟨t', r, e, h1, h2, h3⟩
      · exact .inr ⟨t, j y, e, ht, fun e2 => h e2.symm, (mem_over.mp (ho y hy')).1⟩
      · exact .inr ⟨t', r, e, (mem_less.mp (partOf_sub h1)).1, h2, h3⟩
theorem Made.ne {P : List Nat} {pl : Plc} (m : Made R L f P pl) : P ≠ [] := by
  cases m with
  | mk t j ht _ _ _ => exact fun e => by rw [e] at ht; cases ht
/-- the whole, lot by lot -/
def Whole (R : List Nat) (L : Tab) (f : Forest) : Prop := f.length = R.length ∧ ∀ s, s < R.length → Made R L f (partOf L (List.range R.length) s) none
theorem mem_all {n s : Nat} : s ∈ List.range n ↔ s < n := List.mem_range
theorem Whole.good (w : Whole R L f) : Good R f := by
  refine ⟨w.1, fun x h r e => ?_, fun x hx => ?_⟩
  · have hx : x < R.length := by
      by_cases hx : x < R.length
      · exact hx
      · rw [up_ge (by rw [w.1]; omega)] at e
        cases e
    have hm := mem_all.mpr hx
    rcases (w.2 x hx).places x (partOf_self hm) with e2 | ⟨t, r', e2, h1, h2, h3⟩
    · rw [e] at e2
      cases e2
    · rw [e] at e2
      cases e2
      exact ⟨mem_all.mp (partOf_sub h1), h2, h3⟩
  · exact (w.2 x hx).hangs (fun _ _ e => by cases e) x (partOf_self (mem_all.mpr hx))
/-- in a form: the top of a lot is around all others, in the rooms told; outward of a lot is what is outward of its place -/
theorem Made.around (g : Good R f) {P : List Nat} {pl : Plc} (m : Made R L f P pl) : ∀ y ∈ P, ∀ z ∈ arnd f y, z ∈ P ∨ ∃ h r, pl = some (h, r) ∧ Le f z h := by
  induction m with
  | @mk P pl t j ht hu ho _ ih =>
    intro y hy z hz
    have top : ∀ z ∈ arnd f t, ∃ h r, pl = some (h, r) ∧ Le f z h := fun z hz => by
      cases e : up f t with
      | none => rw [arnd_none e] at hz; cases hz
      | some p =>
        obtain ⟨h, r⟩ := p
        rw [arnd_some g e] at hz
        exact ⟨h, r, by rw [← hu, e], by rcases List.mem_cons.mp hz with h1 | h1
                                         · exact .inl h1
                                         · exact .inr h1⟩
    by_cases h : y = t
    · subst h
      exact .inr (top z hz)
    · have hy' : y ∈ less P t := mem_less.mpr ⟨hy, h⟩
      rcases ih y hy' y (partOf_self hy') z hz with h1 | ⟨h', r', e, h1⟩
      · exact .inl (mem_less.mp (partOf_sub h1)).1
      · cases e
        rcases h1 with rfl | h1
        · exact .inl ht
        · exact .inr (top z h1)
/-- each thing of a lot lies below its top, those of a part in one room -/
theorem Made.under (g : Good R f) {P : List Nat} {pl : Plc} (m : Made R L f P pl) : ∀ y ∈ P, up f y = pl ∨ ∃ t, ∃ r, up f t = pl ∧ t ∈ P ∧ (t, r) ∈ climb f y := by
  induction m with
  | @mk P pl t j ht hu ho _ ih =>
    intro y hy
    by_cases h : y = t
    · subst h
      exact .inl hu
    · have hy' : y ∈ less P t := mem_less.mpr ⟨hy, h⟩
      right
      refine ⟨t, j y, hu, ht, ?_⟩
      rcases ih y hy' y (partOf_self hy') with e | ⟨t', r', e, h1, h2⟩
      · rw [g.climb_some e]
        exact List.mem_cons_self
      · refine room_trans g (y := t') ?_ (mem_arnd.mpr ⟨r', h2⟩)
        rw [g.climb_some e]
        exact List.mem_cons_self
theorem Made.room (g : Good R f) {P : List Nat} {t j : Nat} (m : Made R L f P (some (t, j))) : ∀ y ∈ P, (t, j) ∈ climb f y := by
  intro y hy
  rcases m.under g y hy with e | ⟨t', r, e, h1, h2⟩
  · rw [g.climb_some e]
    exact List.mem_cons_self
  · refine room_trans g (y := t') ?_ (mem_arnd.mpr ⟨r, h2⟩)
    rw [g.climb_some e]
    exact List.mem_cons_self
/-- outward of a top -/
theorem top_around (g : Good R f) {t : Nat} {pl : Plc} (hu : up f t = pl) : ∀ z ∈ arnd f t, ∃ h r, pl = some (h, r) ∧ Le f z h := fun z hz => by
  cases e : up f t with
  | none => rw [arnd_none e] at hz; cases hz
  | some p =>
    obtain ⟨h, r⟩ := p
    rw [arnd_some g e] at hz
    exact ⟨h, r, by rw [← hu, e], List.mem_cons.mp hz⟩
/-- what lies outward of the place is none of the lot's -/
abbrev Out (f : Forest) (P : List Nat) (pl : Plc) : Prop := ∀ h r, pl = some (h, r) → ∀ z, Le f z h → z ∉ P
theorem Out.sub (g : Good R f) {P : List Nat} {pl : Plc} (o : Out f P pl) {t s j : Nat} (hu : up f t = pl) : Out f (partOf L (less P t) s) (some (t, j)) := by
  intro h r e z hz hm
  cases e
  obtain ⟨h1, h2⟩ := mem_less.mp (partOf_sub hm)
  rcases hz with rfl | hz
  · exact h2 rfl
  · obtain ⟨h', r', e', h3⟩ := top_around g hu z hz
    exact o h' r' e' z h3 h1
theorem apart_of {a b : Nat} (h : linked L a b = false) : Sd.apart ∈ L a b := by
  simpa [linked] using h
theorem Made.stands (S : SymT R.length L) (g : Good R f) {P : List Nat} {pl : Plc} (m : Made R L f P pl) : (∀ x ∈ P, x < R.length) → Out f P pl → ∀ x ∈ P, ∀ y ∈ P, x ≠ y → stand f x y ∈ L x y := by
  induction m with
  | @mk P pl t j ht hu ho hm ih =>
    intro hl out x hx y hy hne
    have hl' : ∀ z ∈ less P t, z < R.length := fun z hz => hl z (mem_less.mp hz).1
    have fromTop : ∀ z ∈ P, z ≠ t → stand f t z ∈ L t z := fun z hz hzt => by
      have hz' : z ∈ less P t := mem_less.mpr ⟨hz, hzt⟩
      rw [stand_aro g ((hm z hz').room g z (partOf_self hz'))]
      exact (mem_over.mp (ho z hz')).2 z (partOf_self hz')
    by_cases hxt : x = t
    · subst hxt
      exact fromTop y hy hne.symm
    · by_cases hyt : y = t
      · subst hyt
        rw [stand_turn g y x]
        exact (S.turn y x _ (hl y hy) (hl x hx) hne.symm).mp (fromTop x hx hxt)
      · have hx' : x ∈ less P t := mem_less.mpr ⟨hx, hxt⟩
        have hy' : y ∈ less P t := mem_less.mpr ⟨hy, hyt⟩
        by_cases hp : y ∈ partOf L (less P t) x
        · exact ih x hx' (fun z hz => hl' z (partOf_sub hz)) (out.sub g hu) x (partOf_self hx') y hp hne
        · have hlk : linked L x y = false := by
            cases e : linked L x y with
            | false => rfl
            | true => exact absurd (partOf_mem.mpr ⟨hy', .step .refl hy' hne.symm e⟩) hp
          have noTop : ∀ z ∈ P, ¬ Le f z t ∨ z = t := fun z hz => by
            by_cases e : z = t
            · exact .inr e
            · left
              rintro (h1 | h1)
              · exact e h1
              · obtain ⟨h', r', e', h3⟩ := top_around g hu z h1
                exact out h' r' e' z h3 hz
          have a1 : y ∉ arnd f x := fun h => by
            rcases (hm x hx').around g x (partOf_self hx') y h with h1 | ⟨h', r', e, h1⟩
            · exact hp h1
            · cases e
              exact (noTop y hy).elim (fun k => k h1) hyt
          have a2 : x ∉ arnd f y := fun h => by
            rcases (hm y hy').around g y (partOf_self hy') x h with h1 | ⟨h', r', e, h1⟩
            · have h2 := (partOf_mem.mp h1).2
              exact hp (partOf_mem.mpr ⟨hy', h2.symm S hl' hy'⟩)
            · cases e
              exact (noTop x hx).elim (fun k => k h1) hxt
          rw [stand_apart g a1 a2]
          exact apart_of hlk
/-- what is beneath a thing of the lot is of one piece -/
theorem Made.ones (S : SymT R.length L) (g : Good R f) {P : List Nat} {pl : Plc} (m : Made R L f P pl) : (∀ x ∈ P, x < R.length) → Out f P pl → One L P → (∀ y, ∀ z ∈ P, z ∈ arnd f y → y ∈ P) → ∀ z ∈ P, One L (beneath f z) := by
  induction m with
  | @mk P pl t j ht hu ho hm ih =>
    intro hl out hone hcl z hz
    have hl' : ∀ z ∈ less P t, z < R.length := fun z hz => hl z (mem_less.mp hz).1
    have memB : ∀ x y, y ∈ beneath f x ↔ y < R.length ∧ (y = x ∨ x ∈ arnd f y) := fun x y => by simp [beneath, g.len]
    by_cases hzt : z = t
    · subst hzt
      have e : ∀ y, y ∈ beneath f z ↔ y ∈ P := fun y => by
        rw [memB]
        constructor
        · rintro ⟨h1, rfl | h2⟩
          · exact hz
          · exact hcl y z hz h2
        · intro hy
          refine ⟨hl y hy, ?_⟩
          by_cases h : y = z
          · exact .inl h
          · have hy' : y ∈ less P z := mem_less.mpr ⟨hy, h⟩
            exact .inr (mem_arnd.mpr ⟨_, (hm y hy').room g y (partOf_self hy')⟩)
      intro a ha b hb
      exact (hone a ((e a).mp ha) b ((e b).mp hb)).mono fun x hx => (e x).mpr hx
    · have hz' : z ∈ less P t := mem_less.mpr ⟨hz, hzt⟩
      refine ih z hz' (fun x hx => hl' x (partOf_sub hx)) (out.sub g hu) (partOf_one S hl' hz') (fun y w hw hwy => ?_) z (partOf_self hz')
      have hwP := mem_less.mp (partOf_sub hw)
      have hy := hcl y w hwP.1 hwy
      have noTop : ¬ Le f w t := by
        rintro (h1 | h1)
        · exact hwP.2 h1
        · obtain ⟨h', r', e', h3⟩ := top_around g hu w h1
          exact out h' r' e' w h3 hwP.1
      have hyt : y ≠ t := fun e => noTop (.inr (e ▸ hwy))
      have hy' : y ∈ less P t := mem_less.mpr ⟨hy, hyt⟩
      rcases (hm y hy').around g y (partOf_self hy') w hwy with h1 | ⟨h', r', e, h1⟩
      · have e1 := partOf_eq S hl' hy' (partOf_mem.mp h1).2
        have e2 := partOf_eq S hl' hz' (partOf_mem.mp hw).2
        rw [← e2, e1]
        exact partOf_self hy'
      · cases e
        exact absurd h1 noTop
theorem Whole.least (S : SymT R.length L) (w : Whole R L f) : Least R L f := by
  have g := w.good
  have hr : ∀ x ∈ List.range R.length, x < R.length := fun x hx => mem_all.mp hx
  have hin : ∀ y z, z ∈ arnd f y → y < R.length → z ∈ partOf L (List.range R.length) y := fun y z h hy => by
    rcases (w.2 y hy).around g y (partOf_self (mem_all.mpr hy)) z h with h1 | ⟨_, _, e, _⟩
    · exact h1
    · cases e
  have noOut : ∀ s, Out f (partOf L (List.range R.length) s) none := fun s h r e => by cases e
  refine ⟨g, fun x y hx hy hne => ?_, fun x hx => ?_⟩
  · by_cases hp : y ∈ partOf L (List.range R.length) x
    · exact (w.2 x hx).stands S g (fun z hz => hr z (partOf_sub hz)) (noOut x) x (partOf_self (mem_all.mpr hx)) y hp hne
    · have hlk : linked L x y = false := by
        cases e : linked L x y with
        | false => rfl
        | true => exact absurd (partOf_mem.mpr ⟨mem_all.mpr hy, .step .refl (mem_all.mpr hy) hne.symm e⟩) hp
      have a1 : y ∉ arnd f x := fun h => hp (hin x y h hx)
      have a2 : x ∉ arnd f y := fun h => hp (partOf_mem.mpr ⟨mem_all.mpr hy, ((partOf_mem.mp (hin y x h hy)).2).symm S hr (mem_all.mpr hy)⟩)
      rw [stand_apart g a1 a2]
      exact apart_of hlk
  · have ho := (w.2 x hx).ones S g (fun z hz => hr z (partOf_sub hz)) (noOut x) (partOf_one S hr (mem_all.mpr hx)) (fun y z hz hzy => ?_) x (partOf_self (mem_all.mpr hx))
    · refine parts_whole ho fun e => ?_
      have : x ∈ beneath f x := by simp [beneath, g.len, hx]
      rw [e] at this
      cases this
    · have hy := arnd_in g hzy
      have h1 := (partOf_mem.mp (hin y z hzy hy)).2
      have h2 := (partOf_mem.mp hz).2
      exact partOf_mem.mpr ⟨mem_all.mpr hy, h2.trans (h1.symm S hr (mem_all.mpr hy))⟩
end
end MM
end
section
set_option Elab.async false
set_option linter.all false
namespace MM
theorem asc_ext {a b : List Nat} (ha : a.Pairwise (· < ·)) (hb : b.Pairwise (· < ·)) (h : ∀ x, x ∈ a ↔ x ∈ b) : a = b :=
  List.Perm.eq_of_pairwise (le := (· ≤ ·)) (fun x y _ _ h1 h2 => Nat.le_antisymm h1 h2) (ha.imp fun h => Nat.le_of_lt h) (hb.imp fun h => Nat.le_of_lt h)
    ((List.perm_ext_iff_of_nodup (ha.imp fun h => by omega) (hb.imp fun h => by omega)).mpr h)
section
variable {R : List Nat} {L : Tab} {f : Forest}
theorem mem_ben (g : Good R f) {x y : Nat} : y ∈ beneath f x ↔ y < R.length ∧ Le f x y := by
  unfold beneath Le
  rw [List.mem_filter, List.mem_range, g.len]
  simp only [decide_eq_true_eq]
  constructor
  · rintro ⟨h1, rfl | h2⟩
    · exact ⟨h1, .inl rfl⟩
    · exact ⟨h1, .inr h2⟩
  · rintro ⟨h1, rfl | h2⟩
    · exact ⟨h1, .inl rfl⟩
    · exact ⟨h1, .inr h2⟩
theorem ben_asc {x : Nat} : (beneath f x).Pairwise (· < ·) := List.Pairwise.filter _ List.pairwise_lt_range
theorem Least.keeps (l : Least R L f) : Keeps R L f := l.lets
theorem Least.one (S : SymT R.length L) (l : Least R L f) {x : Nat} (hx : x < R.length) : One L (beneath f x) := one_of_parts S (fun y hy => ((mem_ben l.good).mp hy).1) (l.whole x hx)
/-- the part of a lot that is a whole subtree -/
theorem part_ben (S : SymT R.length L) (l : Least R L f) {lot : List Nat} (ha : lot.Pairwise (· < ·)) (hl : ∀ x ∈ lot, x < R.length) {c s : Nat} (hc : c < R.length) (hin : ∀ y ∈ beneath f c, y ∈ lot) (hno : ∀ d ∈ lot, Conn L lot s d → d ∉ arnd f c) (hs : s ∈ beneath f c) :
    partOf L lot s = beneath f c := by
  have g := l.good
  refine asc_ext (ha.filter _) ben_asc fun y => ?_
  show y ∈ partOf L lot s ↔ _
  rw [partOf_mem]
  constructor
  · rintro ⟨hy, h⟩
    clear hy
    induction h with
    | refl => exact hs
    | @step b d h1 h2 h3 h4 ih =>
      have hb := (mem_ben g).mp ih
      refine (mem_ben g).mpr ⟨hl d h2, ?_⟩
      rcases link_comp g l.keeps hb.1 (hl d h2) h3.symm h4 with h | h
      · rcases Le.comp g hb.2 (.inr h : Le f d b) with q | q
        · exact q
        · rcases q with rfl | q
          · exact .inl rfl
          · exact absurd q (hno d h2 (.step h1 h2 h3 h4))
      · exact hb.2.trans g (.inr h)
  · intro hy
    exact ⟨hin y hy, ((l.one S hc) s hs y hy).mono hin⟩
/-- the child of x that s lies in -/
theorem child_of (g : Good R f) {x : Nat} : ∀ {s : Nat}, x ∈ arnd f s → ∃ c j, up f c = some (x, j) ∧ Le f c s := by
  have key : ∀ k s, (climb f s).length = k → x ∈ arnd f s → ∃ c j, up f c = some (x, j) ∧ Le f c s := by
    intro k
    induction k with
    | zero =>
      intro s hk h
      unfold arnd at h
      rw [List.length_eq_zero_iff.mp hk] at h
      cases h
    | succ k ih =>
      intro s hk h
      cases e : up f s with
      | none => rw [arnd_none e] at h; cases h
      | some p =>
        obtain ⟨hh, r⟩ := p
        rw [arnd_some g e] at h
        rcases List.mem_cons.mp h with rfl | h
        · exact ⟨s, r, e, .inl rfl⟩
        · have hk2 : (climb f hh).length = k := by
            rw [g.climb_some e] at hk
            simpa using hk
          obtain ⟨c, j, h1, h2⟩ := ih hh hk2 h
          refine ⟨c, j, h1, h2.trans g (.inr ?_)⟩
          rw [arnd_some g e]
          exact List.mem_cons_self
  intro s h
  exact key _ s rfl h
theorem root_of (g : Good R f) : ∀ s, ∃ c, up f c = none ∧ Le f c s := by
  have key : ∀ k s, (climb f s).length = k → ∃ c, up f c = none ∧ Le f c s := by
    intro k
    induction k with
    | zero =>
      intro s hk
      cases e : up f s with
      | none => exact ⟨s, e, .inl rfl⟩
      | some p => rw [g.climb_some (h := p.1) (r := p.2) e] at hk; simp at hk
    | succ k ih =>
      intro s hk
      cases e : up f s with
      | none => exact ⟨s, e, .inl rfl⟩
      | some p =>
        obtain ⟨hh, r⟩ := p
        have hk2 : (climb f hh).length = k := by
          rw [g.climb_some e] at hk
          simpa using hk
        obtain ⟨c, h1, h2⟩ := ih hh hk2
        refine ⟨c, h1, h2.trans g (.inr ?_)⟩
        rw [arnd_some g e]
        exact List.mem_cons_self
  exact fun s => key _ s rfl
theorem Least.made (S : SymT R.length L) (l : Least R L f) : ∀ (k x : Nat), R.length - (climb f x).length = k → x < R.length → Made R L f (beneath f x) (up f x) := by
  have g := l.good
  intro k
  induction k using Nat.strongRecOn with
  | ind k ih =>
    intro x hk hx
    have hben : ∀ z ∈ beneath f x, z < R.length := fun z hz => ((mem_ben g).mp hz).1
    have facts : ∀ s ∈ less (beneath f x) x, ∃ c j, up f c = some (x, j) ∧ Le f c s ∧ partOf L (less (beneath f x) x) s = beneath f c ∧ (x, j) ∈ climb f s := fun s hs => by
      obtain ⟨h1, h2⟩ := mem_less.mp hs
      obtain ⟨h3, h4⟩ := (mem_ben g).mp h1
      have hxs : x ∈ arnd f s := h4.resolve_left fun e => h2 e.symm
      obtain ⟨c, j, h5, h6⟩ := child_of g hxs
      have hcl := g.upLt h5
      have hxc : x ∈ arnd f c := by rw [arnd_some g h5]; exact List.mem_cons_self
      refine ⟨c, j, h5, h6, part_ben S l (ben_asc.filter _) (fun z hz => hben z (mem_less.mp hz).1) hcl (fun y hy => ?_) (fun d hd _ hdc => ?_) ((mem_ben g).mpr ⟨h3, h6⟩), ?_⟩
      · obtain ⟨q1, q2⟩ := (mem_ben g).mp hy
        have hxy : x ∈ arnd f y := by
          rcases q2 with rfl | q2
          · exact hxc
          · exact arnd_trans g hxc q2
        exact mem_less.mpr ⟨(mem_ben g).mpr ⟨q1, .inr hxy⟩, fun e => g.notArnd x (e ▸ hxy)⟩
      · obtain ⟨q1, q2⟩ := mem_less.mp hd
        rw [arnd_some g h5] at hdc
        rcases List.mem_cons.mp hdc with e | hdx
        · exact q2 e
        · rcases ((mem_ben g).mp q1).2 with e | q3
          · exact q2 e.symm
          · exact arnd_anti g hdx q3
      · have hxj : (x, j) ∈ climb f c := by rw [g.climb_some h5]; exact List.mem_cons_self
        rcases h6 with rfl | h6
        · exact hxj
        · exact room_trans g hxj h6
    have hw : ∀ s ∈ less (beneath f x) x, ∀ c j, up f c = some (x, j) → Le f c s → (wayTo f s x).getD 0 = j := fun s hs c j h5 h6 => by
      have hxj : (x, j) ∈ climb f c := by rw [g.climb_some h5]; exact List.mem_cons_self
      have : (x, j) ∈ climb f s := by
        rcases h6 with rfl | h6
        · exact hxj
        · exact room_trans g hxj h6
      rw [(mem_way g).mpr this]
      rfl
    refine .mk x (fun s => (wayTo f s x).getD 0) ((mem_ben g).mpr ⟨hx, .inl rfl⟩) rfl (fun s hs => ?_) fun s hs => ?_
    · obtain ⟨c, j, h5, h6, h7, h8⟩ := facts s hs
      show (wayTo f s x).getD 0 ∈ _
      rw [hw s hs c j h5 h6, h7]
      refine over_of g l.keeps (fun y hy => ((mem_ben g).mp hy).1) hx (fun e => ?_) fun q hq => ?_
      · have : c ∈ beneath f c := (mem_ben g).mpr ⟨g.upLt h5, .inl rfl⟩
        rw [e] at this
        cases this
      · have hxj : (x, j) ∈ climb f c := by rw [g.climb_some h5]; exact List.mem_cons_self
        rcases ((mem_ben g).mp hq).2 with rfl | h
        · exact hxj
        · exact room_trans g hxj h
    · obtain ⟨c, j, h5, h6, h7, h8⟩ := facts s hs
      show Made R L f (partOf L (less (beneath f x) x) s) (some (x, (wayTo f s x).getD 0))
      rw [hw s hs c j h5 h6, h7, ← h5]
      have h9 : (climb f c).length = (climb f x).length + 1 := by rw [g.climb_some h5]; rfl
      have h10 := g.climb_len c
      exact ih (R.length - (climb f c).length) (by omega) c rfl (g.upLt h5)
theorem Least.whole' (S : SymT R.length L) (l : Least R L f) : Whole R L f := by
  have g := l.good
  refine ⟨g.len, fun s hs => ?_⟩
  obtain ⟨c, h1, h2⟩ := root_of g s
  have hc : c < R.length := by
    rcases h2 with rfl | h2
    · exact hs
    · exact g.arndLt h2
  have e : partOf L (List.range R.length) s = beneath f c := part_ben S l List.pairwise_lt_range (fun x hx => mem_all.mp hx) hc (fun y hy => mem_all.mpr ((mem_ben g).mp hy).1) (fun d _ _ hd => by rw [arnd_none h1] at hd; cases hd) ((mem_ben g).mpr ⟨hs, h2⟩)
  rw [e, ← h1]
  exact l.made S _ c rfl hc
end
end MM
end
section
set_option Elab.async false
set_option linter.all false
namespace MM
section
variable {R : List Nat} {L : Tab} {f f' : Forest}
theorem Made.congr {P : List Nat} {pl : Plc} (m : Made R L f P pl) : (∀ y ∈ P, up f' y = up f y) → Made R L f' P pl := by
  induction m with
  | @mk P pl t j ht hu ho _ ih =>
    intro h
    exact .mk t j ht (by rw [h t ht]; exact hu) ho fun s hs => ih s hs fun y hy => h y (mem_less.mp (partOf_sub hy)).1
/-- a lot built from its top and its parts -/
theorem made_by {P : List Nat} {pl : Plc} {t : Nat} (ht : t ∈ P) (hu : up f' t = pl) (h : ∀ s ∈ less P t, ∃ j, j ∈ over R L t (partOf L (less P t) s) ∧ Made R L f' (partOf L (less P t) s) (some (t, j))) : Made R L f' P pl := by
  have h2 : ∀ s, ∃ j, s ∈ less P t → j ∈ over R L t (partOf L (less P t) s) ∧ Made R L f' (partOf L (less P t) s) (some (t, j)) := fun s => by
    by_cases hs : s ∈ less P t
    · obtain ⟨j, hj⟩ := h s hs
      exact ⟨j, fun _ => hj⟩
    · exact ⟨0, fun k => absurd k hs⟩
  obtain ⟨jf, hjf⟩ := Classical.axiomOfChoice h2
  exact .mk t jf ht hu (fun s hs => (hjf s hs).1) fun s hs => (hjf s hs).2
/-- the parts beneath a thing are its children's subtrees -/
theorem Least.kids (S : SymT R.length L) (l : Least R L f) {x : Nat} (hx : x < R.length) : ∀ s ∈ less (beneath f x) x, ∃ c j, up f c = some (x, j) ∧ Le f c s ∧ partOf L (less (beneath f x) x) s = beneath f c ∧ j ∈ over R L x (beneath f c) := by
  have g := l.good
  intro s hs
  obtain ⟨h1, h2⟩ := mem_less.mp hs
  obtain ⟨h3, h4⟩ := (mem_ben g).mp h1
  have hxs : x ∈ arnd f s := h4.resolve_left fun e => h2 e.symm
  obtain ⟨c, j, h5, h6⟩ := child_of g hxs
  have hcl := g.upLt h5
  have hxj : (x, j) ∈ climb f c := by rw [g.climb_some h5]; exact List.mem_cons_self
  have hxc : x ∈ arnd f c := mem_arnd.mpr ⟨j, hxj⟩
  refine ⟨c, j, h5, h6, part_ben S l (ben_asc.filter _) (fun z hz => ((mem_ben g).mp (mem_less.mp hz).1).1) hcl (fun y hy => ?_) (fun d hd _ hdc => ?_) ((mem_ben g).mpr ⟨h3, h6⟩), ?_⟩
  · obtain ⟨q1, q2⟩ := (mem_ben g).mp hy
    have hxy : x ∈ arnd f y := by
      rcases q2 with rfl | q2
      · exact hxc
      · exact arnd_trans g hxc q2
    exact mem_less.mpr ⟨(mem_ben g).mpr ⟨q1, .inr hxy⟩, fun e => g.notArnd x (e ▸ hxy)⟩
  · obtain ⟨q1, q2⟩ := mem_less.mp hd
    rw [arnd_some g h5] at hdc
    rcases List.mem_cons.mp hdc with e | hdx
    · exact q2 e
    · rcases ((mem_ben g).mp q1).2 with e | q3
      · exact q2 e.symm
      · exact arnd_anti g hdx q3
  · refine over_of g l.keeps (fun y hy => ((mem_ben g).mp hy).1) hx (fun e => ?_) fun q hq => ?_
    · have : c ∈ beneath f c := (mem_ben g).mpr ⟨hcl, .inl rfl⟩
      rw [e] at this
      cases this
    · rcases ((mem_ben g).mp hq).2 with rfl | h
      · exact hxj
      · exact room_trans g hxj h
/-- a thing and its subtree, in another form that has its children's subtrees in rooms over them -/
theorem Least.node (S : SymT R.length L) (l : Least R L f) {x : Nat} (hx : x < R.length) {pl : Plc} (hu : up f' x = pl)
    (h : ∀ c j, up f c = some (x, j) → ∃ j', j' ∈ over R L x (beneath f c) ∧ Made R L f' (beneath f c) (some (x, j'))) : Made R L f' (beneath f x) pl := by
  refine made_by ((mem_ben l.good).mpr ⟨hx, .inl rfl⟩) hu fun s hs => ?_
  obtain ⟨c, j, h5, h6, h7, h8⟩ := l.kids S hx s hs
  obtain ⟨j', q1, q2⟩ := h c j h5
  exact ⟨j', by rw [h7]; exact q1, by rw [h7]; exact q2⟩
theorem Least.roomOver (S : SymT R.length L) (l : Least R L f) {c x j : Nat} (h5 : up f c = some (x, j)) : j ∈ over R L x (beneath f c) := by
  have g := l.good
  have hxj : (x, j) ∈ climb f c := by rw [g.climb_some h5]; exact List.mem_cons_self
  refine over_of g l.keeps (fun y hy => ((mem_ben g).mp hy).1) (g.lt h5) (fun e => ?_) fun q hq => ?_
  · have : c ∈ beneath f c := (mem_ben g).mpr ⟨g.upLt h5, .inl rfl⟩
    rw [e] at this
    cases this
  · rcases ((mem_ben g).mp hq).2 with rfl | h
    · exact hxj
    · exact room_trans g hxj h
theorem ben_child (g : Good R f) {c x j : Nat} (h5 : up f c = some (x, j)) : (∀ y ∈ beneath f c, y ∈ beneath f x ∧ y ≠ x) := by
  intro y hy
  obtain ⟨q1, q2⟩ := (mem_ben g).mp hy
  have hxc : x ∈ arnd f c := by rw [arnd_some g h5]; exact List.mem_cons_self
  have hxy : x ∈ arnd f y := by
    rcases q2 with rfl | q2
    · exact hxc
    · exact arnd_trans g hxc q2
  exact ⟨(mem_ben g).mpr ⟨q1, .inr hxy⟩, fun e => g.notArnd x (e ▸ hxy)⟩
/-- a subtree as it stands -/
theorem Least.same (S : SymT R.length L) (l : Least R L f) {c : Nat} (hc : c < R.length) (h : ∀ y ∈ beneath f c, up f' y = up f y) : Made R L f' (beneath f c) (up f c) := (l.made S _ c rfl hc).congr h
/-- a subtree, its top elsewhere -/
theorem Least.move (S : SymT R.length L) (l : Least R L f) {c : Nat} (hc : c < R.length) {pl : Plc} (hu : up f' c = pl) (h : ∀ y ∈ beneath f c, y ≠ c → up f' y = up f y) : Made R L f' (beneath f c) pl :=
  l.node S hc hu fun d j hd => ⟨j, l.roomOver S hd, by
    rw [← hd]
    exact l.same S (l.good.upLt hd) fun y hy => h y (ben_child l.good hd y hy).1 (ben_child l.good hd y hy).2⟩
/-- what is done within a subtree -/
theorem Least.replace (S : SymT R.length L) (l : Least R L f) {d : Nat} (hd : d < R.length) (hlen : f'.length = f.length) (hD : Made R L f' (beneath f d) (up f d)) (hout : ∀ y, y ∉ beneath f d → up f' y = up f y) : Whole R L f' := by
  have g := l.good
  have key : ∀ (k x : Nat), R.length - (climb f x).length = k → x < R.length → d ∉ arnd f x → Made R L f' (beneath f x) (up f x) := by
    intro k
    induction k using Nat.strongRecOn with
    | ind k ih =>
      intro x hk hx hdx
      by_cases e : x = d
      · rw [e]
        exact hD
      · have hxD : x ∉ beneath f d := fun h => by
          rcases ((mem_ben g).mp h).2 with q | q
          · exact e q.symm
          · exact hdx q
        refine l.node S hx (hout x hxD) fun c j hc => ⟨j, l.roomOver S hc, ?_⟩
        have h9 : (climb f c).length = (climb f x).length + 1 := by rw [g.climb_some hc]; rfl
        have h10 := g.climb_len c
        rw [← hc]
        refine ih (R.length - (climb f c).length) (by omega) c rfl (g.upLt hc) fun h => ?_
        rw [arnd_some g hc] at h
        rcases List.mem_cons.mp h with q | q
        · exact e q.symm
        · exact hdx q
  refine ⟨by rw [hlen]; exact g.len, fun s hs => ?_⟩
  obtain ⟨c, h1, h2⟩ := root_of g s
  have hc : c < R.length := by
    rcases h2 with rfl | h2
    · exact hs
    · exact g.arndLt h2
  have e : partOf L (List.range R.length) s = beneath f c := part_ben S l List.pairwise_lt_range (fun x hx => mem_all.mp hx) hc (fun y hy => mem_all.mpr ((mem_ben g).mp hy).1) (fun d _ _ hd => by rw [arnd_none h1] at hd; cases hd) ((mem_ben g).mpr ⟨hs, h2⟩)
  rw [e, ← h1]
  exact key _ c rfl hc (by rw [arnd_none h1]; simp)
theorem upSet {f : Forest} {x y : Nat} {p : Plc} (hx : x < f.length) : up (f.set x p) y = if y = x then p else up f y := by
  unfold up
  rw [List.getD_eq_getElem?_getD, List.getD_eq_getElem?_getD, List.getElem?_set]
  by_cases h : x = y
  · subst h
    simp [hx]
  · have : ¬ y = x := fun e => h e.symm
    simp [h, this]
/-- a shift keeps a least form one -/
theorem Least.shift (S : SymT R.length L) (l : Least R L f) {x t r j : Nat} (o : up f x = some (t, r)) (hj : j ∈ over R L t (beneath f x)) : Least R L (f.set x (some (t, j))) := by
  have g := l.good
  have hx := g.upLt o
  have ht := g.lt o
  have hxl : x < f.length := by rw [g.len]; exact hx
  have hne := (g.pl x t r o).2.1
  have hup : ∀ y, y ≠ x → up (f.set x (some (t, j))) y = up f y := fun y hy => by rw [upSet hxl, if_neg hy]
  have hxt : x ∈ beneath f t := (mem_ben g).mpr ⟨hx, .inr (by rw [arnd_some g o]; exact List.mem_cons_self)⟩
  refine (l.replace S ht (by rw [List.length_set]) (l.node S ht (hup t hne) fun c i hc => ?_) fun y hy => hup y fun e => hy (e ▸ hxt)).least S
  by_cases e : c = x
  · rw [e]
    exact ⟨j, hj, l.move S hx (by rw [upSet hxl, if_pos rfl]) fun y _ hy => hup y hy⟩
  · refine ⟨i, l.roomOver S hc, ?_⟩
    rw [← hc]
    refine l.same S (g.upLt hc) fun y hy => hup y fun e2 => ?_
    subst e2
    -- y within both c and itself under t: c = y
    rcases ((mem_ben g).mp hy).2 with q | q
    · exact e q
    · rw [arnd_some g o] at q
      have htc : t ∈ arnd f c := by rw [arnd_some g hc]; exact List.mem_cons_self
      rcases List.mem_cons.mp q with q | q
      · subst q
        exact g.notArnd c htc
      · exact arnd_anti g htc q
end
end MM
end
section
set_option Elab.async false
set_option linter.all false
namespace MM
section
variable {R : List Nat} {L : Tab} {f f' : Forest}
/-- a turn keeps a least form one -/
theorem Least.turn (S : SymT R.length L) (l : Least R L f) {x t r j : Nat} (o : up f x = some (t, r)) (hj : j ∈ over R L x (partOf L (less (beneath f t) x) t))
    (hlen : f'.length = f.length) (e1 : up f' x = up f t) (e2 : up f' t = some (x, j))
    (e3 : ∀ c i, up f c = some (x, i) → c ∈ partOf L (less (beneath f t) x) t → up f' c = some (t, r))
    (e4 : ∀ y, y ≠ x → y ≠ t → (∀ i, up f y = some (x, i) → y ∉ partOf L (less (beneath f t) x) t) → up f' y = up f y) : Least R L f' ∧ ∀ y ∈ beneath f t, Le f' x y := by
  have g := l.good
  have hx := g.upLt o
  have ht := g.lt o
  have htx : t ≠ x := (g.pl x t r o).2.1
  have hax : arnd f x = t :: arnd f t := arnd_some g o
  have hxt : x ∈ beneath f t := (mem_ben g).mpr ⟨hx, .inr (by rw [hax]; exact List.mem_cons_self)⟩
  have htt : t ∈ beneath f t := (mem_ben g).mpr ⟨ht, .inl rfl⟩
  have htB : t ∈ less (beneath f t) x := mem_less.mpr ⟨htt, htx⟩
  have hBl : ∀ y ∈ less (beneath f t) x, y < R.length := fun y hy => ((mem_ben g).mp (mem_less.mp hy).1).1
  have hBn : ∀ y ∈ beneath f t, y ∉ arnd f t := fun y hy h => by
    rcases ((mem_ben g).mp hy).2 with q | q
    · subst q
      exact g.notArnd _ h
    · exact arnd_anti g h q
  -- what lies beneath a child of t other than x, or a child of x
  have sub1 : ∀ c i, up f c = some (t, i) → c ≠ x → ∀ y ∈ beneath f c, y ∈ less (beneath f t) x ∧ y ≠ t ∧ ∀ i', up f y ≠ some (x, i') := fun c i hc hcx y hy => by
    have h1 := ben_child g hc y hy
    have hac : arnd f c = t :: arnd f t := arnd_some g hc
    have hyx : y ≠ x := fun e => by
      subst e
      rcases ((mem_ben g).mp hy).2 with q | q
      · exact hcx q
      · rw [hax] at q
        rcases List.mem_cons.mp q with q | q
        · subst q
          exact (g.pl _ _ _ hc).2.1 rfl
        · exact arnd_anti g q (by rw [hac]; exact List.mem_cons_self)
    refine ⟨mem_less.mpr ⟨h1.1, hyx⟩, h1.2, fun i' hi => ?_⟩
    rcases ((mem_ben g).mp hy).2 with q | q
    · subst q
      rw [hc] at hi
      exact htx (Option.some.inj hi |> Prod.mk.inj |>.1)
    · rw [arnd_some g hi] at q
      rcases List.mem_cons.mp q with q | q
      · exact hcx q
      · rw [hax] at q
        rcases List.mem_cons.mp q with q | q
        · subst q
          exact (g.pl _ _ _ hc).2.1 rfl
        · exact arnd_anti g q (by rw [hac]; exact List.mem_cons_self)
  have sub2 : ∀ c i, up f c = some (x, i) → ∀ y ∈ beneath f c, y ∈ less (beneath f t) x ∧ y ≠ t ∧ ∀ i', up f y = some (x, i') → y = c := fun c i hc y hy => by
    have h1 := ben_child g hc y hy
    have hac : arnd f c = x :: arnd f x := arnd_some g hc
    have h2 := ben_child g o y h1.1
    refine ⟨mem_less.mpr ⟨h2.1, h1.2⟩, h2.2, fun i' hi => ?_⟩
    rcases ((mem_ben g).mp hy).2 with q | q
    · exact q.symm
    · rw [arnd_some g hi] at q
      rcases List.mem_cons.mp q with q | q
      · subst q
        exact absurd rfl (g.pl _ _ _ hc).2.1
      · exact absurd (by rw [hac]; exact List.mem_cons_self) (arnd_anti g q)
  -- every child of t but x hangs with t
  have inH : ∀ c i, up f c = some (t, i) → c ≠ x → ∀ s ∈ beneath f c, Conn L (less (beneath f t) x) t s := fun c i hc hcx s hs => by
    have hcl := g.upLt hc
    have hac : arnd f c = t :: arnd f t := arnd_some g hc
    have hone := l.one S hcl
    have hsub : ∀ y ∈ beneath f c, y ∈ less (beneath f t) x := fun y hy => (sub1 c i hc hcx y hy).1
    have hst := l.one S ht s (ben_child g hc s hs).1 t htt
    have key : ∀ d, Conn L (beneath f t) s d → d ∈ beneath f c ∨ Conn L (less (beneath f t) x) s t := fun d h => by
      induction h with
      | refl => exact .inl hs
      | @step b d _ h2 h3 h4 ih =>
        rcases ih with ih | ih
        · have hb := (mem_ben g).mp ih
          have hd := (mem_ben g).mp h2
          have : Le f c d ∨ d = t := by
            rcases link_comp g l.keeps hb.1 hd.1 h3.symm h4 with h | h
            · rcases Le.comp g hb.2 (.inr h : Le f d b) with q | q
              · exact .inl q
              · rcases q with rfl | q
                · exact .inl (.inl rfl)
                · rw [hac] at q
                  rcases List.mem_cons.mp q with q | q
                  · exact .inr q
                  · exact absurd q (hBn d h2)
            · exact .inl (hb.2.trans g (.inr h))
          rcases this with q | q
          · exact .inl ((mem_ben g).mpr ⟨hd.1, q⟩)
          · subst q
            exact .inr (.step ((hone s hs b ih).mono hsub) htB h3 h4)
        · exact .inr ih
    rcases key t hst with q | q
    · exact absurd rfl (sub1 c i hc hcx t q).2.1
    · exact q.symm S hBl (hsub s hs)
  have hHm : ∀ {y}, y ∈ partOf L (less (beneath f t) x) t ↔ y ∈ less (beneath f t) x ∧ Conn L (less (beneath f t) x) t y := partOf_mem
  have hasc : (less (beneath f t) x).Pairwise (· < ·) := ben_asc.filter _
  -- the child of t that a thing lies in
  have hkid : ∀ s ∈ less (beneath f t) x, s ≠ t → (∃ c i, up f c = some (t, i) ∧ c ≠ x ∧ s ∈ beneath f c) ∨ ∃ c i, up f c = some (x, i) ∧ s ∈ beneath f c := fun s hs hst => by
    obtain ⟨h1, h2⟩ := mem_less.mp hs
    obtain ⟨h3, h4⟩ := (mem_ben g).mp h1
    obtain ⟨c, i, h5, h6⟩ := child_of g (h4.resolve_left fun e => hst e.symm)
    by_cases e : c = x
    · subst e
      have h7 : c ∈ arnd f s := h6.resolve_left fun e => h2 e.symm
      obtain ⟨d, i', h8, h9⟩ := child_of g h7
      exact .inr ⟨d, i', h8, (mem_ben g).mpr ⟨h3, h9⟩⟩
    · exact .inl ⟨c, i, h5, e, (mem_ben g).mpr ⟨h3, h6⟩⟩
  have hMadeH : Made R L f' (partOf L (less (beneath f t) x) t) (some (x, j)) := by
    have hasc2 : (less (partOf L (less (beneath f t) x) t) t).Pairwise (· < ·) := (hasc.filter _).filter _
    have hl2 : ∀ y ∈ less (partOf L (less (beneath f t) x) t) t, y < R.length := fun y hy => hBl y (hHm.mp (mem_less.mp hy).1).1
    refine made_by (hHm.mpr ⟨htB, .refl⟩) e2 fun s hs => ?_
    obtain ⟨h1, h2⟩ := mem_less.mp hs
    obtain ⟨h3, h4⟩ := hHm.mp h1
    rcases hkid s h3 h2 with ⟨c, i, hc, hcx, hsc⟩ | ⟨c, i, hc, hsc⟩
    · have hcl := g.upLt hc
      have hp : partOf L (less (partOf L (less (beneath f t) x) t) t) s = beneath f c := by
        refine part_ben S l hasc2 hl2 hcl (fun y hy => ?_) (fun d hd _ hdc => ?_) hsc
        · have q := sub1 c i hc hcx y hy
          exact mem_less.mpr ⟨hHm.mpr ⟨q.1, inH c i hc hcx y hy⟩, q.2.1⟩
        · rw [arnd_some g hc] at hdc
          obtain ⟨q1, q2⟩ := mem_less.mp hd
          rcases List.mem_cons.mp hdc with q | q
          · exact q2 q
          · exact hBn d (mem_less.mp (hHm.mp q1).1).1 q
      refine ⟨i, by rw [hp]; exact l.roomOver S hc, ?_⟩
      rw [hp, ← hc]
      refine l.same S hcl fun y hy => ?_
      have q := sub1 c i hc hcx y hy
      exact e4 y (mem_less.mp q.1).2 q.2.1 fun i' hi => absurd hi (q.2.2 i')
    · have hcl := g.upLt hc
      have hsubc : ∀ y ∈ beneath f c, y ∈ less (beneath f t) x := fun y hy => (sub2 c i hc y hy).1
      have hinc : ∀ y ∈ beneath f c, y ∈ partOf L (less (beneath f t) x) t := fun y hy => hHm.mpr ⟨hsubc y hy, h4.trans ((l.one S hcl s hsc y hy).mono hsubc)⟩
      have hcc : c ∈ beneath f c := (mem_ben g).mpr ⟨hcl, .inl rfl⟩
      have hp : partOf L (less (partOf L (less (beneath f t) x) t) t) s = beneath f c := by
        refine part_ben S l hasc2 hl2 hcl (fun y hy => ?_) (fun d hd _ hdc => ?_) hsc
        · exact mem_less.mpr ⟨hinc y hy, (sub2 c i hc y hy).2.1⟩
        · rw [arnd_some g hc] at hdc
          obtain ⟨q1, q2⟩ := mem_less.mp hd
          have q3 := mem_less.mp (hHm.mp q1).1
          rcases List.mem_cons.mp hdc with q | q
          · exact q3.2 q
          · rw [hax] at q
            rcases List.mem_cons.mp q with q | q
            · exact q2 q
            · exact hBn d q3.1 q
      refine ⟨r, ?_, ?_⟩
      · rw [hp]
        exact over_mono (fun y hy => (ben_child g hc y hy).1) (l.roomOver S o)
      · rw [hp]
        refine l.move S hcl (e3 c i hc (hinc c hcc)) fun y hy hyc => ?_
        have q := sub2 c i hc y hy
        exact e4 y (mem_less.mp q.1).2 q.2.1 fun i' hi => absurd (q.2.2 i' hi) hyc
  have hparts : ∀ s ∈ less (beneath f t) x, ∃ j, j ∈ over R L x (partOf L (less (beneath f t) x) s) ∧ Made R L f' (partOf L (less (beneath f t) x) s) (some (x, j)) := by
    intro s hs
    by_cases hsH : Conn L (less (beneath f t) x) t s
    · have hp : partOf L (less (beneath f t) x) s = partOf L (less (beneath f t) x) t := partOf_eq S hBl htB hsH
      exact ⟨j, by rw [hp]; exact hj, by rw [hp]; exact hMadeH⟩
    · have hst : s ≠ t := fun e => hsH (e ▸ .refl)
      rcases hkid s hs hst with ⟨c, i, hc, hcx, hsc⟩ | ⟨c, i, hc, hsc⟩
      · exact absurd (inH c i hc hcx s hsc) hsH
      · have hcl := g.upLt hc
        have hcc : c ∈ beneath f c := (mem_ben g).mpr ⟨hcl, .inl rfl⟩
        have hsubc : ∀ y ∈ beneath f c, y ∈ less (beneath f t) x := fun y hy => (sub2 c i hc y hy).1
        have hp : partOf L (less (beneath f t) x) s = beneath f c := by
          refine part_ben S l hasc hBl hcl hsubc (fun d hd hco hdc => ?_) hsc
          rw [arnd_some g hc] at hdc
          rcases List.mem_cons.mp hdc with q | q
          · exact (mem_less.mp hd).2 q
          · rw [hax] at q
            rcases List.mem_cons.mp q with q | q
            · subst q
              exact hsH (hco.symm S hBl hs)
            · exact hBn d (mem_less.mp hd).1 q
        refine ⟨i, by rw [hp]; exact l.roomOver S hc, ?_⟩
        rw [hp, ← hc]
        refine l.same S hcl fun y hy => ?_
        have q := sub2 c i hc y hy
        refine e4 y (mem_less.mp q.1).2 q.2.1 fun i' hi hyH => ?_
        have := q.2.2 i' hi
        subst this
        exact hsH ((hHm.mp hyH).2.trans ((l.one S hcl y hcc s hsc).mono hsubc))
  have hout : ∀ y, y ∉ beneath f t → up f' y = up f y := by
    intro y hy
    refine e4 y (fun e => hy (e ▸ hxt)) (fun e => hy (e ▸ htt)) fun i hi _ => ?_
    exact hy (ben_child g o y ((mem_ben g).mpr ⟨g.upLt hi, .inr (by rw [arnd_some g hi]; exact List.mem_cons_self)⟩)).1
  have hleast : Least R L f' := (l.replace S ht hlen (made_by hxt e1 hparts) hout).least S
  refine ⟨hleast, fun y hy => ?_⟩
  by_cases e : y = x
  · exact .inl e.symm
  · have hy2 : y ∈ less (beneath f t) x := mem_less.mpr ⟨hy, e⟩
    obtain ⟨j', _, m⟩ := hparts y hy2
    exact .inr (mem_arnd.mpr ⟨j', m.room hleast.good y (partOf_self hy2)⟩)
end
end MM
end
section
set_option Elab.async false
set_option linter.all false
namespace MM
theorem putAll_out {y : Nat} : ∀ {row : Row} {f : Forest}, (∀ q ∈ row, q.1 ≠ y ∧ q.1 < f.length) → up (putAll f row) y = up f y
  | [], _, _ => rfl
  | q :: row, f, h => by
    show up (putAll (f.set q.1 q.2) row) y = _
    rw [putAll_out fun p hp => ⟨(h p (List.mem_cons_of_mem _ hp)).1, by rw [List.length_set]; exact (h p (List.mem_cons_of_mem _ hp)).2⟩, upSet (h q List.mem_cons_self).2, if_neg (h q List.mem_cons_self).1.symm]
theorem putAll_in {y : Nat} {p : Plc} : ∀ {row : Row} {f : Forest}, (row.map (·.1)).Nodup → (∀ q ∈ row, q.1 < f.length) → (y, p) ∈ row → up (putAll f row) y = p
  | [], _, _, _, h => by cases h
  | q :: row, f, hn, hl, h => by
    show up (putAll (f.set q.1 q.2) row) y = _
    rw [List.map_cons, List.nodup_cons] at hn
    have hl2 : ∀ p ∈ row, p.1 < (f.set q.1 q.2).length := fun p hp => by rw [List.length_set]; exact hl p (List.mem_cons_of_mem _ hp)
    rcases List.mem_cons.mp h with rfl | h
    · rw [putAll_out fun p hp => ⟨fun e => hn.1 (List.mem_map.mpr ⟨p, hp, e⟩), hl2 p hp⟩, upSet (hl _ List.mem_cons_self), if_pos rfl]
    · exact putAll_in hn.2 hl2 h
theorem putAll_length {f : Forest} {row : Row} : (putAll f row).length = f.length := by
  unfold putAll
  induction row generalizing f with
  | nil => rfl
  | cons q row ih => rw [List.foldl_cons, ih, List.length_set]
section
variable {R : List Nat} {L : Tab} {f : Forest}
theorem lies_iff {x o : Nat} : lies f x o = true ↔ ∃ i, up f o = some (x, i) := by
  unfold lies
  cases e : up f o with
  | none => simp
  | some p =>
    obtain ⟨a, b⟩ := p
    simp
theorem Least.behind_turn (S : SymT R.length L) (l : Least R L f) {x t r j : Nat} (o : up f x = some (t, r)) (hd : granted R L f (true, x, j) = true) :
    Least R L (behind L f (true, x, j)) ∧ (∀ y ∈ beneath f t, Le (behind L f (true, x, j)) x y) ∧ up (behind L f (true, x, j)) x = up f t ∧ ∀ y, y ∉ beneath f t → up (behind L f (true, x, j)) y = up f y := by
  have g := l.good
  unfold granted at hd
  unfold MM.behind hangsOf
  have hx := g.upLt o
  have ht := g.lt o
  have htx : t ≠ x := (g.pl x t r o).2.1
  simp only [o, if_true, Bool.and_eq_true, decide_eq_true_eq] at hd
  have htB : t ∈ less (beneath f t) x := mem_less.mpr ⟨(mem_ben g).mpr ⟨ht, .inl rfl⟩, htx⟩
  have hpw : partW L (less (beneath f t) x) t = partOf L (less (beneath f t) x) t := partW_eq S (fun y hy => ((mem_ben g).mp (mem_less.mp hy).1).1) htB
  rw [hpw] at hd
  simp only [o, if_true]
  rw [hpw]
  have hmem : ∀ c, c ∈ ((List.range f.length).filter fun o => lies f x o && decide (o ∈ partOf L (less (beneath f t) x) t)) ↔ (∃ i, up f c = some (x, i)) ∧ c ∈ partOf L (less (beneath f t) x) t := fun c => by
    rw [List.mem_filter, List.mem_range, Bool.and_eq_true, lies_iff, decide_eq_true_eq]
    constructor
    · exact fun h => h.2
    · exact fun h => ⟨by rw [g.len]; obtain ⟨i, hi⟩ := h.1; exact g.upLt hi, h⟩
  have hnx : ∀ c, (∃ i, up f c = some (x, i)) → c ≠ x ∧ c ≠ t := fun c ⟨i, hi⟩ => ⟨fun e => (g.pl c x i hi).2.1 e.symm, fun e => by
    subst e
    exact arnd_anti g (x := x) (y := c) (by rw [arnd_some g hi]; exact List.mem_cons_self) (by rw [arnd_some g o]; exact List.mem_cons_self)⟩
  have hnod : (((x, up f t) :: (t, some (x, j)) :: ((List.range f.length).filter fun o => lies f x o && decide (o ∈ partOf L (less (beneath f t) x) t)).map fun o => (o, some (t, r))).map (·.1)).Nodup := by
    rw [List.map_cons, List.map_cons, List.map_map]
    have e : ((fun x : Nat × Plc => x.1) ∘ fun o : Nat => (o, (some (t, r) : Plc))) = id := rfl
    rw [e, List.map_id, List.nodup_cons, List.nodup_cons]
    refine ⟨fun h => ?_, fun h => ?_, List.nodup_range.filter _⟩
    · rcases List.mem_cons.mp h with q | q
      · exact htx q.symm
      · exact (hnx x ((hmem x).mp q).1).1 rfl
    · exact (hnx t ((hmem t).mp h).1).2 rfl
  have hlt : ∀ q ∈ ((x, up f t) :: (t, some (x, j)) :: ((List.range f.length).filter fun o => lies f x o && decide (o ∈ partOf L (less (beneath f t) x) t)).map fun o => (o, some (t, r))), q.1 < f.length := fun q hq => by
    rw [g.len]
    rcases List.mem_cons.mp hq with q | hq
    · subst q; exact hx
    · rcases List.mem_cons.mp hq with q | hq
      · subst q; exact ht
      · obtain ⟨c, hc, rfl⟩ := List.mem_map.mp hq
        obtain ⟨i, hi⟩ := ((hmem c).mp hc).1
        exact g.upLt hi
  have e4 : ∀ y, y ≠ x → y ≠ t → (∀ i, up f y = some (x, i) → y ∉ partOf L (less (beneath f t) x) t) → up (putAll f ((x, up f t) :: (t, some (x, j)) :: ((List.range f.length).filter fun o => lies f x o && decide (o ∈ partOf L (less (beneath f t) x) t)).map fun o => (o, some (t, r)))) y = up f y := by
    intro y hyx hyt hy
    refine putAll_out fun q hq => ⟨?_, hlt q hq⟩
    rcases List.mem_cons.mp hq with q | hq
    · subst q; exact fun e => hyx e.symm
    · rcases List.mem_cons.mp hq with q | hq
      · subst q; exact fun e => hyt e.symm
      · obtain ⟨c, hc, rfl⟩ := List.mem_map.mp hq
        obtain ⟨⟨i, hi⟩, hcH⟩ := (hmem c).mp hc
        intro e
        have e : c = y := e
        subst e
        exact hy i hi hcH
  have e1 := putAll_in hnod hlt List.mem_cons_self
  have H := l.turn S o hd.2 putAll_length e1 (putAll_in hnod hlt (List.mem_cons_of_mem _ List.mem_cons_self)) (fun c i hc hcH => putAll_in hnod hlt (List.mem_cons_of_mem _ (List.mem_cons_of_mem _ (List.mem_map.mpr ⟨c, (hmem c).mpr ⟨⟨i, hc⟩, hcH⟩, rfl⟩)))) e4
  have hxt : x ∈ beneath f t := (mem_ben g).mpr ⟨hx, .inr (by rw [arnd_some g o]; exact List.mem_cons_self)⟩
  refine ⟨H.1, H.2, e1, fun y hy => e4 y (fun e => hy (e ▸ hxt)) (fun e => hy (by rw [e]; exact (mem_ben g).mpr ⟨ht, .inl rfl⟩)) fun i hi _ => ?_⟩
  exact hy (ben_child g o y ((mem_ben g).mpr ⟨g.upLt hi, .inr (by rw [arnd_some g hi]; exact List.mem_cons_self)⟩)).1
theorem Least.behind (S : SymT R.length L) (l : Least R L f) {d : Deed} (hd : granted R L f d = true) : Least R L (behind L f d) := by
  obtain ⟨w, x, j⟩ := d
  cases o : up f x with
  | none => simp [granted, o] at hd
  | some p =>
    obtain ⟨t, r⟩ := p
    cases w with
    | true => exact (l.behind_turn S o hd).1
    | false =>
      simp only [granted, o, Bool.false_eq_true, if_false, Bool.and_eq_true, decide_eq_true_eq] at hd
      unfold MM.behind hangsOf
      simp only [o, Bool.false_eq_true, if_false]
      exact l.shift S o hd.1
end
end MM
end
section
set_option Elab.async false
set_option linter.all false
namespace MM
theorem turn_turn : ∀ s : Sd, s.turn.turn = s
  | .apart => rfl
  | .inn _ => rfl
  | .aro _ => rfl
theorem mem_turned {l : List Sd} {s : Sd} : s ∈ turned l ↔ s.turn ∈ l := by
  unfold turned
  simp only [List.mem_append, List.mem_filter, List.mem_map, decide_eq_true_eq]
  constructor
  · rintro ((⟨h, rfl⟩ | ⟨a, ⟨h, _⟩, rfl⟩) | ⟨a, ⟨h, _⟩, rfl⟩)
    · exact h
    · rw [turn_turn]; exact h
    · rw [turn_turn]; exact h
  · intro h
    cases s with
    | apart => exact .inl (.inl ⟨h, rfl⟩)
    | inn r => exact .inl (.inr ⟨.aro r, ⟨h, rfl⟩, rfl⟩)
    | aro r => exact .inr ⟨.inn r, ⟨h, rfl⟩, rfl⟩
theorem mem_common {a b : List Sd} {s : Sd} : s ∈ common a b ↔ s ∈ a ∧ s ∈ b := by simp [common]
theorem mem_allSd {R : List Nat} {x y : Nat} {s : Sd} : s ∈ allSd R x y ↔ (∀ r, s = .inn r → r < R.getD y 0) ∧ ∀ r, s = .aro r → r < R.getD x 0 := by
  unfold allSd
  simp only [List.mem_cons, List.mem_append, List.mem_map, List.mem_range]
  cases s <;> simp
theorem allSd_sym {n : Nat} {R : List Nat} : SymT n (allSd R) := ⟨fun a b s _ _ _ => by
  rw [mem_allSd, mem_allSd]
  cases s <;> simp [Sd.turn]⟩
theorem addSay_sym {n : Nat} {L : Tab} (S : SymT n L) {s : Say} (h : s.1 ≠ s.2.1) : SymT n (addSay L s) := ⟨fun a b t ha hb hn => by
  have hS := S.turn a b t ha hb hn
  unfold addSay
  by_cases h1 : a = s.1 ∧ b = s.2.1
  · have h2 : ¬ (b = s.1 ∧ a = s.2.1) := fun q => h (h1.1.symm.trans q.2)
    have h3 : b = s.2.1 ∧ a = s.1 := ⟨h1.2, h1.1⟩
    rw [if_pos h1, if_neg h2, if_pos h3, mem_common, mem_common, mem_turned, turn_turn, hS]
  · by_cases h2 : a = s.2.1 ∧ b = s.1
    · have h3 : b = s.1 ∧ a = s.2.1 := ⟨h2.2, h2.1⟩
      rw [if_neg h1, if_pos h2, if_pos h3, mem_common, mem_common, mem_turned, hS]
    · have h3 : ¬ (b = s.1 ∧ a = s.2.1) := fun q => h2 ⟨q.2, q.1⟩
      have h4 : ¬ (b = s.2.1 ∧ a = s.1) := fun q => h1 ⟨q.2, q.1⟩
      rw [if_neg h1, if_neg h2, if_neg h3, if_neg h4, hS]⟩
theorem addSay_sub {L : Tab} {s : Say} {a b : Nat} {t : Sd} (h : t ∈ addSay L s a b) : t ∈ L a b := by
  unfold addSay at h
  split at h
  · exact (mem_common.mp h).1
  · split at h
    · exact (mem_common.mp h).1
    · exact h
theorem addSays_sub {ss : List Say} : ∀ {L : Tab} {a b : Nat} {t : Sd}, t ∈ ss.foldl addSay L a b → t ∈ L a b := by
  induction ss with
  | nil => exact fun h => h
  | cons s ss ih => exact fun h => addSay_sub (ih h)
theorem tab_all {R : List Nat} {ss : List Say} {a b : Nat} {t : Sd} (h : t ∈ tabOf R ss a b) : t ∈ allSd R a b := addSays_sub h
theorem addSays_sym {n : Nat} {ss : List Say} : ∀ {L : Tab}, SymT n L → (∀ s ∈ ss, s.1 ≠ s.2.1) → SymT n (ss.foldl addSay L) := by
  induction ss with
  | nil => exact fun S _ => S
  | cons s ss ih => exact fun S h => ih (addSay_sym S (h s List.mem_cons_self)) fun t ht => h t (List.mem_cons_of_mem _ ht)
theorem tab_sym {R : List Nat} {ss : List Say} (h : ∀ s ∈ ss, SayOk R s) : SymT R.length (tabOf R ss) := addSays_sym allSd_sym fun s hs => (h s hs).2.2.1
theorem addSays_say {ss : List Say} : ∀ {L : Tab} {s : Say} {t : Sd}, s ∈ ss → t ∈ ss.foldl addSay L s.1 s.2.1 → t ∈ s.2.2 := by
  induction ss with
  | nil => exact fun h => absurd h (List.not_mem_nil)
  | cons q ss ih =>
    intro L s t hs h
    rcases List.mem_cons.mp hs with rfl | hs
    · have : t ∈ addSay L s s.1 s.2.1 := addSays_sub (ss := ss) (by simpa only [List.foldl_cons] using h)
      unfold addSay at this
      rw [if_pos ⟨rfl, rfl⟩] at this
      exact (mem_common.mp this).2
    · exact ih hs h
/-- what a table lets, each saying of it lets -/
theorem tab_say {R : List Nat} {ss : List Say} {s : Say} {t : Sd} (hs : s ∈ ss) (h : t ∈ tabOf R ss s.1 s.2.1) : t ∈ s.2.2 := addSays_say hs h
/-- a form that keeps every saying keeps the table -/
theorem addSays_keep {R : List Nat} {f : Forest} (g : Good R f) {ss : List Say} : ∀ {L : Tab}, Keeps R L f → (∀ s ∈ ss, stand f s.1 s.2.1 ∈ s.2.2) → Keeps R (ss.foldl addSay L) f := by
  induction ss with
  | nil => exact fun k _ => k
  | cons q ss ih =>
    intro L k h
    refine ih (L := addSay L q) (fun x y hx hy hn => ?_) fun s hs => h s (List.mem_cons_of_mem _ hs)
    have hq := h q List.mem_cons_self
    unfold addSay
    by_cases h1 : x = q.1 ∧ y = q.2.1
    · rw [if_pos h1, mem_common]
      exact ⟨k x y hx hy hn, by rw [h1.1, h1.2]; exact hq⟩
    · by_cases h2 : x = q.2.1 ∧ y = q.1
      · rw [if_neg h1, if_pos h2, mem_common, mem_turned]
        refine ⟨k x y hx hy hn, ?_⟩
        rw [← stand_turn g, h2.1, h2.2]
        exact hq
      · rw [if_neg h1, if_neg h2]
        exact k x y hx hy hn
theorem keeps_all {R : List Nat} {f : Forest} (g : Good R f) : Keeps R (allSd R) f := fun x y hx hy hn => by
  rw [mem_allSd]
  refine ⟨fun r e => ?_, fun r e => ?_⟩
  · have h := stand_comp g (x := x) (y := y) (by rw [e]; exact fun h => by cases h)
    rcases h with h | h
    · obtain ⟨j, hj⟩ := mem_arnd.mp h
      rw [stand_inn g hj] at e
      cases e
      exact climb_room g hj
    · obtain ⟨j, hj⟩ := mem_arnd.mp h
      rw [stand_aro g hj] at e
      cases e
  · have h := stand_comp g (x := x) (y := y) (by rw [e]; exact fun h => by cases h)
    rcases h with h | h
    · obtain ⟨j, hj⟩ := mem_arnd.mp h
      rw [stand_inn g hj] at e
      cases e
    · obtain ⟨j, hj⟩ := mem_arnd.mp h
      rw [stand_aro g hj] at e
      cases e
      exact climb_room g hj
theorem tab_keeps {R : List Nat} {f : Forest} (g : Good R f) {ss : List Say} (h : ∀ s ∈ ss, stand f s.1 s.2.1 ∈ s.2.2) : Keeps R (tabOf R ss) f := addSays_keep g (keeps_all g) h
end MM
end
section
set_option Elab.async false
set_option linter.all false
namespace MM
section
variable {R : List Nat} {L : Tab} {f f' : Forest}
theorem parts_sub {lot : List Nat} (S : SymT R.length L) (hl : ∀ x ∈ lot, x < R.length) {p : List Nat} (hp : p ∈ parts L lot) : ∀ x ∈ p, x ∈ lot := by
  obtain ⟨s, _, rfl⟩ := (mem_parts_iff S hl).mp hp
  exact fun x hx => partOf_sub hx
theorem filter_two {α : Type} (p : α → Bool) : ∀ l : List α, l.length = (l.filter p).length + (l.filter fun x => !p x).length
  | [] => rfl
  | a :: l => by
    have := filter_two p l
    cases h : p a <;> simp [List.filter_cons, h] <;> omega
theorem rest_sub {a x : Nat} {l : List Nat} (h : x ∈ rest L (a :: l) a) : x ∈ a :: l := (mem_rest.mp h).1
theorem parts_disj (S : SymT R.length L) : ∀ (k : Nat) (lot : List Nat), lot.length ≤ k → (∀ x ∈ lot, x < R.length) → (parts L lot).Pairwise fun a b => ∀ x ∈ a, x ∉ b
  | _, [], _, _ => List.Pairwise.nil
  | 0, a :: l, h, _ => by simp at h
  | k + 1, a :: l, h, hl => by
    rw [parts_cons]
    have hlr : ∀ x ∈ rest L (a :: l) a, x < R.length := fun x hx => hl x (rest_sub hx)
    have hlt := rest_lt (L := L) (a := a) (l := l)
    refine List.Pairwise.cons (fun p hp x hx hxp => ?_) (parts_disj S k _ (by simp only [List.length_cons] at h hlt; omega) hlr)
    exact (mem_rest.mp (parts_sub S hlr hp x hxp)).2 (partOf_mem.mp hx).2
theorem parts_sum : ∀ (k : Nat) (lot : List Nat), lot.length ≤ k → ((parts L lot).map List.length).sum = lot.length
  | _, [], _ => rfl
  | 0, a :: l, h => by simp at h
  | k + 1, a :: l, h => by
    rw [parts_cons, List.map_cons, List.sum_cons]
    have hlt := rest_lt (L := L) (a := a) (l := l)
    rw [parts_sum k _ (by simp only [List.length_cons] at h hlt; omega)]
    have := filter_two (fun x => decide (x ∈ partOf L (a :: l) a)) (a :: l)
    have e1 : ((a :: l).filter fun x => decide (x ∈ partOf L (a :: l) a)) = partOf L (a :: l) a := by
      refine (List.filter_congr fun x hx => ?_ : _ = ((a :: l).filter fun x => @decide (Conn L (a :: l) a x) (Classical.propDecidable _)))
      have := partOf_mem (L := L) (lot := a :: l) (s := a) (x := x)
      simp only [hx, true_and] at this
      simp [this]
    have e2 : ((a :: l).filter fun x => !decide (x ∈ partOf L (a :: l) a)) = rest L (a :: l) a := by
      unfold rest
      refine List.filter_congr fun x hx => ?_
      simp
    rw [e1, e2] at this
    exact this.symm
/-- a form under way: lots still to be laid -/
structure Fill (R : List Nat) (L : Tab) (f : Forest) (q : List (List Nat × Plc)) : Prop where
  len : f.length = R.length
  lots : ∀ p ∈ q, (∀ x ∈ p.1, x < R.length) ∧ One L p.1 ∧ p.1 ≠ []
  disj : q.Pairwise fun a b => ∀ x ∈ a.1, x ∉ b.1
  all : ∀ f' : Forest, f'.length = R.length → (∀ p ∈ q, Made R L f' p.1 p.2) → (∀ y, (∀ p ∈ q, y ∉ p.1) → up f' y = up f y) → Whole R L f'
theorem Fill.done (F : Fill R L f []) : Whole R L f := F.all f F.len (fun p h => by cases h) fun _ _ => rfl
theorem Fill.start (S : SymT R.length L) (hf : f.length = R.length) : Fill R L f ((parts L (List.range R.length)).map fun p => (p, none)) := by
  have hl : ∀ x ∈ List.range R.length, x < R.length := fun x hx => mem_all.mp hx
  refine ⟨hf, fun p hp => ?_, ?_, fun f' h1 h2 _ => ⟨h1, fun s hs => ?_⟩⟩
  · obtain ⟨p, hp2, rfl⟩ := List.mem_map.mp hp
    obtain ⟨s, hs, rfl⟩ := (mem_parts_iff S hl).mp hp2
    exact ⟨fun x hx => hl x (partOf_sub hx), partOf_one S hl hs, List.ne_nil_of_mem (partOf_self hs)⟩
  · rw [List.pairwise_map]
    exact parts_disj S _ _ (Nat.le_refl _) hl
  · exact h2 (_, none) (List.mem_map.mpr ⟨_, (mem_parts_iff S hl).mpr ⟨s, mem_all.mpr hs, rfl⟩, rfl⟩)
/-- one lot's top is laid; its parts are still to be laid -/
theorem Fill.next (S : SymT R.length L) {q N : List (List Nat × Plc)} {P : List Nat} {pl : Plc} (F : Fill R L f (q ++ [(P, pl)])) {t : Nat} (ht : t ∈ P) (hN : N.map (·.1) = parts L (less P t)) (hj : ∀ p ∈ N, ∃ j, j ∈ over R L t p.1 ∧ p.2 = some (t, j)) :
    Fill R L (f.set t pl) (q ++ N) := by
  have hP := F.lots (P, pl) (List.mem_append_right _ List.mem_cons_self)
  have hPl : ∀ x ∈ less P t, x < R.length := fun x hx => hP.1 x (mem_less.mp hx).1
  have hdis := List.pairwise_append.mp F.disj
  have hqP : ∀ p ∈ q, ∀ x ∈ p.1, x ∉ P := fun p hp => hdis.2.2 p hp (P, pl) List.mem_cons_self
  have htl : t < f.length := by rw [F.len]; exact hP.1 t ht
  have hNp : ∀ p ∈ N, p.1 ∈ parts L (less P t) := fun p hp => by rw [← hN]; exact List.mem_map.mpr ⟨p, hp, rfl⟩
  refine ⟨by rw [List.length_set, F.len], fun p hp => ?_, ?_, fun f' h1 h2 h3 => ?_⟩
  · rcases List.mem_append.mp hp with h | h
    · exact F.lots p (List.mem_append_left _ h)
    · obtain ⟨s, hs, e⟩ := (mem_parts_iff S hPl).mp (hNp p h)
      rw [e]
      exact ⟨fun x hx => hPl x (partOf_sub hx), partOf_one S hPl hs, List.ne_nil_of_mem (partOf_self hs)⟩
  · refine List.pairwise_append.mpr ⟨hdis.1, ?_, fun a ha b hb x hx hxb => ?_⟩
    · have := parts_disj S _ _ (Nat.le_refl _) hPl
      rw [← hN, List.pairwise_map] at this
      exact this
    · exact hqP a ha x hx (mem_less.mp (parts_sub S hPl (hNp b hb) x hxb)).1
  · refine F.all f' h1 (fun p hp => ?_) fun y hy => ?_
    · rcases List.mem_append.mp hp with h | h
      · exact h2 p (List.mem_append_left _ h)
      · rw [List.mem_singleton] at h
        subst h
        refine made_by ht ?_ fun s hs => ?_
        · rw [h3 t fun p hp => ?_, upSet htl, if_pos rfl]
          rcases List.mem_append.mp hp with h | h
          · exact fun h2 => hqP p h t h2 ht
          · exact fun h2 => (mem_less.mp (parts_sub S hPl (hNp p h) t h2)).2 rfl
        · have hp : partOf L (less P t) s ∈ N.map (·.1) := by rw [hN]; exact (mem_parts_iff S hPl).mpr ⟨s, hs, rfl⟩
          obtain ⟨p, hp1, hp2⟩ := List.mem_map.mp hp
          obtain ⟨j, hj1, hj2⟩ := hj p hp1
          have := h2 p (List.mem_append_right _ hp1)
          rw [hj2] at this
          rw [← hp2]
          exact ⟨j, hj1, this⟩
    · have hyt : y ≠ t := fun e => hy (P, pl) (List.mem_append_right _ List.mem_cons_self) (e ▸ ht)
      rw [h3 y fun p hp => ?_, upSet htl, if_neg hyt]
      rcases List.mem_append.mp hp with h | h
      · exact hy p (List.mem_append_left _ h)
      · exact fun h2 => hy (P, pl) (List.mem_append_right _ List.mem_cons_self) (mem_less.mp (parts_sub S hPl (hNp p h) y h2)).1
/-- there is a free thing in each lot, where some form keeps the table -/
theorem free_ne (S : SymT R.length L) {g : Forest} (hg : Good R g) (K : Keeps R L g) {P : List Nat} (hl : ∀ x ∈ P, x < R.length) (ho : One L P) (hne : P ≠ []) : freeIn R L P ≠ [] := by
  obtain ⟨t, ht, h⟩ := has_top hg K hl ho hne
  exact List.ne_nil_of_mem (List.mem_filter.mpr ⟨ht, top_free S hg K hl ht h⟩)
theorem free_over {P : List Nat} {t : Nat} (h : t ∈ freeIn R L P) : t ∈ P ∧ ∀ p ∈ parts L (less P t), over R L t p ≠ [] := by
  obtain ⟨h1, h2⟩ := List.mem_filter.mp h
  unfold isFree at h2
  rw [List.all_eq_true] at h2
  exact ⟨h1, fun p hp => by simpa using h2 p hp⟩
end
end MM
end
section
set_option Elab.async false
set_option linter.all false
namespace MM
/-! the law's knot: three things, each two linked -/
def knotR : List Nat := [1, 1, 1]
def knotSs : List Say := [(0, 1, [.inn 0, .aro 0]), (1, 2, [.inn 0, .aro 0]), (2, 0, [.inn 0, .aro 0])]
def knotF : Forest := [none, some (0, 0), some (1, 0)]
def knotG : Forest := [some (1, 0), some (2, 0), none]
theorem knot_ok : ∀ s ∈ knotSs, SayOk knotR s := by
  intro s hs
  simp only [knotSs, List.mem_cons, List.not_mem_nil, or_false] at hs
  rcases hs with rfl | rfl | rfl <;> refine ⟨by decide, by decide, by decide, ?_⟩ <;> exact .cons _ (.refl _)
theorem knot_link : ∀ a < 3, ∀ b < 3, b ≠ a → linked (tabOf knotR knotSs) a b = true := by decide
theorem knot_one {lot : List Nat} (h : ∀ x ∈ lot, x < 3) : One (tabOf knotR knotSs) lot := fun a ha b hb => by
  by_cases e : b = a
  · subst e
    exact .refl
  · exact .step .refl hb e (knot_link a (h a ha) b (h b hb) e)
theorem knot_part {lot : List Nat} (h : ∀ x ∈ lot, x < 3) {s : Nat} (hs : s ∈ lot) : partOf (tabOf knotR knotSs) lot s = lot := partOf_whole (knot_one h) hs
theorem knot_made {f : Forest} {a b c : Nat} {P : List Nat} (hP : ∀ x ∈ P, x < 3) (ha : a ∈ P) {pl : Plc} (h0 : up f a = pl) (h1 : up f b = some (a, 0)) (h2 : up f c = some (b, 0))
    (e1 : less (less P a) b = [c]) (e2 : less [c] c = []) (hb : b ∈ less P a) (o1 : 0 ∈ over knotR (tabOf knotR knotSs) a (less P a)) (o2 : 0 ∈ over knotR (tabOf knotR knotSs) b [c]) : Made knotR (tabOf knotR knotSs) f P pl := by
  have hP1 : ∀ x ∈ less P a, x < 3 := fun x hx => hP x (mem_less.mp hx).1
  have hP2 : ∀ x ∈ less (less P a) b, x < 3 := fun x hx => hP1 x (mem_less.mp hx).1
  refine made_by ha h0 fun s hs => ⟨0, by rw [knot_part hP1 hs]; exact o1, ?_⟩
  rw [knot_part hP1 hs]
  refine made_by hb h1 fun s hs => ⟨0, by rw [knot_part hP2 hs, e1]; exact o2, ?_⟩
  rw [knot_part hP2 hs, e1]
  refine made_by List.mem_cons_self h2 fun s hs => ?_
  rw [e2] at hs
  cases hs
theorem knotF_least : Least knotR (tabOf knotR knotSs) knotF := by
  refine Whole.least (tab_sym knot_ok) ⟨rfl, fun s hs => ?_⟩
  have h3 : ∀ x ∈ List.range knotR.length, x < 3 := fun x hx => List.mem_range.mp hx
  rw [knot_part h3 (List.mem_range.mpr hs)]
  exact knot_made (a := 0) (b := 1) (c := 2) h3 (by decide) rfl rfl rfl (by decide) (by decide) (by decide) (by decide) (by decide)
theorem knotG_least : Least knotR (tabOf knotR knotSs) knotG := by
  refine Whole.least (tab_sym knot_ok) ⟨rfl, fun s hs => ?_⟩
  have h3 : ∀ x ∈ List.range knotR.length, x < 3 := fun x hx => List.mem_range.mp hx
  rw [knot_part h3 (List.mem_range.mpr hs)]
  exact knot_made (a := 2) (b := 1) (c := 0) h3 (by decide) rfl rfl rfl (by decide) (by decide) (by decide) (by decide) (by decide)
end MM
end
section
set_option Elab.async false
set_option linter.all false
namespace MM
section
variable {R : List Nat} {L : Tab} {f f' : Forest}
theorem climb_congr (g : Good R f) (g' : Good R f') : ∀ (k y : Nat), (climb f y).length = k → (∀ z, z = y ∨ z ∈ arnd f y → up f' z = up f z) → climb f' y = climb f y := by
  intro k
  induction k with
  | zero =>
    intro y hk h
    cases e : up f y with
    | none => rw [climb_none e, climb_none (by rw [h y (.inl rfl)]; exact e)]
    | some p => rw [g.climb_some (h := p.1) (r := p.2) e] at hk; simp at hk
  | succ k ih =>
    intro y hk h
    cases e : up f y with
    | none => rw [climb_none e, climb_none (by rw [h y (.inl rfl)]; exact e)]
    | some p =>
      obtain ⟨a, r⟩ := p
      have e' : up f' y = some (a, r) := by rw [h y (.inl rfl)]; exact e
      have ea := arnd_some g e
      rw [g.climb_some e, g'.climb_some e', ih a (by rw [g.climb_some e] at hk; simpa using hk) fun z hz => h z (.inr ?_)]
      rw [ea]
      rcases hz with rfl | hz
      · exact List.mem_cons_self
      · exact List.mem_cons_of_mem _ hz
theorem arnd_congr (g : Good R f) (g' : Good R f') {y : Nat} (h : ∀ z, z = y ∨ z ∈ arnd f y → up f' z = up f z) : arnd f' y = arnd f y := by
  unfold arnd
  rw [climb_congr g g' _ y rfl h]
theorem ben_out (g : Good R f) {d y z : Nat} (hy : y ∉ beneath f d) (hyl : y < R.length) (h : z = y ∨ z ∈ arnd f y) : z ∉ beneath f d := fun hz => by
  rcases h with rfl | h
  · exact hy hz
  · exact hy ((mem_ben g).mpr ⟨hyl, ((mem_ben g).mp hz).2.trans g (.inr h)⟩)
/-- what a change within beneath h leaves: x on top of it, and all around it as before -/
theorem after_turn (g : Good R f) (g' : Good R f') {x h t : Nat} (hh : h < R.length) (hx : x ∈ beneath f h) (h1 : ∀ y ∈ beneath f h, Le f' x y) (h2 : up f' x = up f h) (h3 : ∀ y, y ∉ beneath f h → up f' y = up f y) (ht : h ∈ beneath f t) :
    climb f' x = climb f h ∧ beneath f' (if h = t then x else t) = beneath f t := by
  have hsame : ∀ y, y < R.length → y ∉ beneath f h → climb f' y = climb f y := fun y hyl hy => climb_congr g g' _ y rfl fun z hz => h3 z (ben_out g hy hyl hz)
  have hc : climb f' x = climb f h := by
    cases e : up f h with
    | none => rw [climb_none e, climb_none (by rw [h2]; exact e)]
    | some p =>
      obtain ⟨a, r⟩ := p
      have e' : up f' x = some (a, r) := by rw [h2]; exact e
      rw [g.climb_some e, g'.climb_some e', hsame a (g.lt e) fun ha => ?_]
      have hah : a ∈ arnd f h := by rw [arnd_some g e]; exact List.mem_cons_self
      rcases ((mem_ben g).mp ha).2 with q | q
      · subst q; exact g.notArnd _ hah
      · exact arnd_anti g hah q
  refine ⟨hc, ?_⟩
  by_cases e : h = t
  · rw [if_pos e]
    subst e
    refine asc_ext ben_asc ben_asc fun y => ⟨fun hy => ?_, fun hy => (mem_ben g').mpr ⟨((mem_ben g).mp hy).1, h1 y hy⟩⟩
    obtain ⟨q1, q2⟩ := (mem_ben g').mp hy
    by_cases hyb : y ∈ beneath f h
    · exact hyb
    · have := hsame y q1 hyb
      rcases q2 with rfl | q2
      · exact hx
      · unfold arnd at q2
        rw [this] at q2
        exact (mem_ben g).mpr ⟨q1, ((mem_ben g).mp hx).2.trans g (.inr q2)⟩
  · rw [if_neg e]
    have hth : t ∈ arnd f h := ((mem_ben g).mp ht).2.resolve_left fun q => e q.symm
    have htx : t ∈ arnd f' x := by unfold arnd; rw [hc]; exact hth
    refine asc_ext ben_asc ben_asc fun y => ?_
    by_cases hyb : y ∈ beneath f h
    · have q := (mem_ben g).mp hyb
      exact ⟨fun _ => (mem_ben g).mpr ⟨q.1, Le.trans g (.inr hth) q.2⟩, fun _ => (mem_ben g').mpr ⟨q.1, Le.trans g' (.inr htx) (h1 y hyb)⟩⟩
    · rw [mem_ben g, mem_ben g']
      constructor
      · rintro ⟨q1, q2⟩
        refine ⟨q1, ?_⟩
        unfold Le arnd at *
        rwa [hsame y q1 hyb] at q2
      · rintro ⟨q1, q2⟩
        refine ⟨q1, ?_⟩
        unfold Le arnd at *
        rwa [hsame y q1 hyb]
end
end MM
end
section
set_option Elab.async false
set_option linter.all false
namespace MM
section
variable {R : List Nat} {L : Tab} {here goal : Forest}
/-- a turn that raises the goal's top is granted -/
theorem raise_granted (S : SymT R.length L) (l : Least R L here) (lg : Least R L goal) {t x h r : Nat} (hP : beneath here t = beneath goal x) (hx : x < R.length) (o : up here x = some (h, r)) (hxt : x ≠ t) :
    h ∈ beneath here t ∧ ∃ j, wayTo goal h x = some j ∧ granted R L here (true, x, j) = true := by
  have g := l.good
  have gg := lg.good
  have hh := g.lt o
  have hhx : h ≠ x := (g.pl x h r o).2.1
  have hxP : x ∈ beneath goal x := (mem_ben gg).mpr ⟨hx, .inl rfl⟩
  have hth : h ∈ beneath here t := by
    have := (mem_ben g).mp (hP ▸ hxP)
    have q := this.2.resolve_left fun e => hxt e.symm
    rw [arnd_some g o] at q
    refine (mem_ben g).mpr ⟨hh, ?_⟩
    rcases List.mem_cons.mp q with q | q
    · exact .inl q
    · exact .inr q
  have hhP : h ∈ beneath goal x := hP ▸ hth
  have hlP : ∀ y ∈ beneath goal x, y < R.length := fun y hy => ((mem_ben gg).mp hy).1
  have hsub : ∀ y ∈ beneath here h, y ∈ beneath goal x := fun y hy => by
    rw [← hP]
    have q := (mem_ben g).mp hy
    exact (mem_ben g).mpr ⟨q.1, Le.trans g ((mem_ben g).mp hth).2 q.2⟩
  obtain ⟨c, j, h5, h6, h7, h8⟩ := lg.kids S hx h (mem_less.mpr ⟨hhP, hhx⟩)
  have hxj : (x, j) ∈ climb goal c := by rw [gg.climb_some h5]; exact List.mem_cons_self
  have hway : (x, j) ∈ climb goal h := by
    rcases h6 with rfl | h6
    · exact hxj
    · exact room_trans gg hxj h6
  refine ⟨hth, j, (mem_way gg).mpr hway, ?_⟩
  have hhB : h ∈ less (beneath here h) x := mem_less.mpr ⟨(mem_ben g).mpr ⟨hh, .inl rfl⟩, hhx⟩
  have hpw : partW L (less (beneath here h) x) h = partOf L (less (beneath here h) x) h := partW_eq S (fun y hy => ((mem_ben g).mp (mem_less.mp hy).1).1) hhB
  unfold granted
  simp only [o, if_true, Bool.and_eq_true, decide_eq_true_eq]
  rw [hpw]
  refine ⟨free_sub S hlP hsub (top_free S gg lg.keeps hlP hxP fun p hp => ((mem_ben gg).mp hp).2), over_mono (fun y hy => ?_) h8⟩
  rw [← h7]
  exact part_mono (fun z hz => mem_less.mpr ⟨hsub z (mem_less.mp hz).1, (mem_less.mp hz).2⟩) hy
end
end MM
end
section
set_option Elab.async false
set_option linter.all false
namespace MM
section
variable {R : List Nat} {L : Tab} {here goal : Forest}
/-- deeds granted one after the other -/
inductive Steps (R : List Nat) (L : Tab) : Forest → List Deed → Forest → Prop
  | nil {f : Forest} : Steps R L f [] f
  | cons {f f' : Forest} {d : Deed} {ds : List Deed} : granted R L f d = true → Steps R L (behind L f d) ds f' → Steps R L f (d :: ds) f'
theorem Steps.trans {f f' f'' : Forest} {a b : List Deed} (h : Steps R L f a f') (h2 : Steps R L f' b f'') : Steps R L f (a ++ b) f'' := by
  induction h with
  | nil => exact h2
  | cons q _ ih => exact .cons q (ih h2)
theorem Steps.one {f : Forest} {d : Deed} (h : granted R L f d = true) : Steps R L f [d] (behind L f d) := .cons h .nil
theorem Steps.least (S : SymT R.length L) {f f' : Forest} {a : List Deed} (h : Steps R L f a f') : Least R L f → Least R L f' := by
  induction h with
  | nil => exact fun l => l
  | cons q _ ih => exact fun l => ih (l.behind S q)
/-- one turn of raise_in -/
theorem raise_turn (S : SymT R.length L) (l : Least R L here) (lg : Least R L goal) {t x h r : Nat} (hP : beneath here t = beneath goal x) (hx : x < R.length) (o : up here x = some (h, r)) (hxt : x ≠ t) :
    ∃ j, wayTo goal h x = some j ∧ granted R L here (true, x, j) = true ∧ ∃ t', beneath (behind L here (true, x, j)) t' = beneath goal x ∧ (climb (behind L here (true, x, j)) x).length < (climb here x).length ∧
      up (behind L here (true, x, j)) t' = up here t ∧ ∀ y, y ∉ beneath goal x → up (behind L here (true, x, j)) y = up here y := by
  have g := l.good
  obtain ⟨hth, j, h1, h2⟩ := raise_granted S l lg hP hx o hxt
  obtain ⟨q1, q2, q3, q4⟩ := l.behind_turn S o h2
  have hh := g.lt o
  have hxh : x ∈ beneath here h := (mem_ben g).mpr ⟨hx, .inr (by rw [arnd_some g o]; exact List.mem_cons_self)⟩
  obtain ⟨a1, a2⟩ := after_turn g q1.good hh hxh q2 q3 q4 hth
  refine ⟨j, h1, h2, _, a2.trans hP, by rw [a1, g.climb_some o]; simp, ?_, fun y hy => q4 y fun hy2 => hy ?_⟩
  · by_cases e : h = t
    · rw [if_pos e, q3, e]
    · rw [if_neg e]
      refine q4 t fun ht => ?_
      have hth2 : t ∈ arnd here h := ((mem_ben g).mp hth).2.resolve_left fun q => e q.symm
      rcases ((mem_ben g).mp ht).2 with q | q
      · exact e q
      · exact arnd_anti g hth2 q
  · rw [← hP]
    have q := (mem_ben g).mp hy2
    exact (mem_ben g).mpr ⟨q.1, Le.trans g ((mem_ben g).mp hth).2 q.2⟩
end
end MM
end
section
set_option Elab.async false
set_option linter.all false
namespace MM
section
variable {R : List Nat} {L : Tab} {here goal : Forest}
/-- a part within P without its top x, in both forms: beneath a child of x -/
theorem inner_both (S : SymT R.length L) (l : Least R L here) (lg : Least R L goal) {x : Nat} (hP : beneath here x = beneath goal x) (hx : x < R.length) {s : Nat} (hs : s ∈ less (beneath goal x) x) :
    ∃ c i d j, up here c = some (x, i) ∧ up goal d = some (x, j) ∧ partOf L (less (beneath goal x) x) s = beneath here c ∧ partOf L (less (beneath goal x) x) s = beneath goal d ∧ j ∈ over R L x (beneath here c) ∧ ∀ y ∈ beneath goal d, wayTo goal y x = some j := by
  obtain ⟨d, j, h1, h2, h3, h4⟩ := lg.kids S hx s hs
  obtain ⟨c, i, k1, k2, k3, k4⟩ := l.kids S hx s (by rw [hP]; exact hs)
  rw [hP] at k3
  refine ⟨c, i, d, j, k1, h1, k3, h3, by rw [← k3, h3]; exact h4, fun y hy => ?_⟩
  have gg := lg.good
  have hxj : (x, j) ∈ climb goal d := by rw [gg.climb_some h1]; exact List.mem_cons_self
  refine (mem_way gg).mpr ?_
  rcases ((mem_ben gg).mp hy).2 with rfl | h
  · exact hxj
  · exact room_trans gg hxj h
theorem shift_granted {c x i j : Nat} (o : up here c = some (x, i)) (h : j ∈ over R L x (beneath here c)) (hn : i ≠ j) : granted R L here (false, c, j) = true ∧ behind L here (false, c, j) = here.set c (some (x, j)) := by
  refine ⟨?_, ?_⟩
  · simp only [granted, o, Bool.false_eq_true, if_false, Bool.and_eq_true, decide_eq_true_eq]
    exact ⟨h, fun e => hn e.symm⟩
  · unfold MM.behind hangsOf
    simp only [o, Bool.false_eq_true, if_false]
    rfl
/-- the one outermost thing -/
theorem top_one {f : Forest} (g : Good R f) {a b : Nat} (ha : a < R.length) (hb : b < R.length) (h : beneath f a = beneath f b) : a = b := by
  have h1 : a ∈ beneath f b := h ▸ (mem_ben g).mpr ⟨ha, .inl rfl⟩
  have h2 : b ∈ beneath f a := h ▸ (mem_ben g).mpr ⟨hb, .inl rfl⟩
  rcases ((mem_ben g).mp h1).2 with q | q
  · exact q.symm
  · rcases ((mem_ben g).mp h2).2 with q2 | q2
    · exact q2
    · exact absurd q2 (arnd_anti g q)
/-- what lies beneath c stays, where only places outside and c's own change as they may -/
theorem ben_shift (S : SymT R.length L) (l : Least R L here) {c x i j : Nat} (o : up here c = some (x, i)) (l2 : Least R L (here.set c (some (x, j)))) : ∀ y, beneath (here.set c (some (x, j))) y = beneath here y := by
  have g := l.good
  have hcl : c < here.length := by rw [g.len]; exact g.upLt o
  have hup : ∀ y, up (here.set c (some (x, j))) y = if y = c then some (x, j) else up here y := fun y => upSet hcl
  have key : ∀ k y, (climb here y).length = k → arnd (here.set c (some (x, j))) y = arnd here y := by
    intro k
    induction k using Nat.strongRecOn with
    | ind k ih =>
      intro y hk
      cases e : up here y with
      | none =>
        have hyc : y ≠ c := fun h => by subst h; rw [o] at e; cases e
        rw [arnd_none e, arnd_none (by rw [hup, if_neg hyc]; exact e)]
      | some p =>
        obtain ⟨a, r⟩ := p
        have hl : (climb here a).length < k := by rw [← hk, g.climb_some e]; simp
        have e2 : ∃ r', up (here.set c (some (x, j))) y = some (a, r') := by
          by_cases hyc : y = c
          · subst hyc
            rw [o] at e
            cases e
            exact ⟨j, by rw [hup, if_pos rfl]⟩
          · exact ⟨r, by rw [hup, if_neg hyc]; exact e⟩
        obtain ⟨r', e2⟩ := e2
        rw [arnd_some g e, arnd_some l2.good e2, ih _ hl a rfl]
  intro y
  refine asc_ext ben_asc ben_asc fun z => ?_
  rw [mem_ben g, mem_ben l2.good]
  unfold Le
  rw [key _ z rfl]
end
end MM
end
section
set_option Elab.async false
set_option linter.all false
namespace MM
section
variable {R : List Nat} {L : Tab} {goal : Forest}
/-- the thing of a lot that lies in no other one of it -/
def outerM (f : Forest) (P : List Nat) : List Nat := P.filter fun x => match up f x with
  | none => true
  | some p => decide (p.1 ∉ P)
theorem outerM_ben {f : Forest} (g : Good R f) {t : Nat} (ht : t < R.length) : outerM f (beneath f t) = [t] := by
  have htt : t ∈ beneath f t := (mem_ben g).mpr ⟨ht, .inl rfl⟩
  have key : ∀ y ∈ beneath f t, (match up f y with
      | none => true
      | some p => decide (p.1 ∉ beneath f t)) = decide (y = t) := fun y hy => by
    have q := (mem_ben g).mp hy
    by_cases e : y = t
    · subst e
      rw [decide_eq_true rfl]
      cases o : up f y with
      | none => rfl
      | some p =>
        obtain ⟨h, r⟩ := p
        have hh : h ∈ arnd f y := by rw [arnd_some g o]; exact List.mem_cons_self
        refine decide_eq_true fun h2 => ?_
        rcases ((mem_ben g).mp h2).2 with q | q
        · have q : y = h := q
          exact g.notArnd y (by rw [← q] at hh; exact hh)
        · exact arnd_anti g hh q
    · rw [decide_eq_false e]
      have hty := q.2.resolve_left fun h => e h.symm
      cases o : up f y with
      | none => rw [arnd_none o] at hty; cases hty
      | some p =>
        obtain ⟨h, r⟩ := p
        rw [arnd_some g o] at hty
        refine decide_eq_false fun h2 => h2 ((mem_ben g).mpr ⟨g.lt o, ?_⟩)
        rcases List.mem_cons.mp hty with q | q
        · exact .inl q
        · exact .inr q
  unfold outerM
  rw [List.filter_congr key]
  refine asc_ext (ben_asc.filter _) (List.pairwise_singleton _ _) fun y => ?_
  rw [List.mem_filter, List.mem_singleton, decide_eq_true_eq]
  exact ⟨fun h => h.2, fun h => ⟨h ▸ htt, h⟩⟩
end
end MM
end
section
set_option Elab.async false
set_option linter.all false
namespace MM
section
variable {R : List Nat} {L : Tab} {goal : Forest}
/-- what lead leaves -/
structure Led (R : List Nat) (L : Tab) (goal : Forest) (x : Nat) (here : Forest) (ds : List Deed) (here' : Forest) : Prop where
  steps : Steps R L here ds here'
  ben : beneath here' x = beneath goal x
  out : ∀ y, y ∉ beneath goal x → up here' y = up here y
  top : ∀ t, t < R.length → beneath here t = beneath goal x → up here' x = up here t
  agree : ∀ y ∈ beneath goal x, y ≠ x → up here' y = up goal y
  same : beneath here x = beneath goal x → (∀ y ∈ beneath goal x, y ≠ x → up here y = up goal y) → ds = [] ∧ here' = here
  few : ds.length + 1 ≤ (beneath goal x).length * (R.length + 1)
/-- one inner part: from the state before its shift to the state after its lead -/
theorem inner_step (S : SymT R.length L) {f f2 f3 : Forest} (l : Least R L f) (lg : Least R L goal) {x c d i j : Nat} (hx : x < R.length) (hP : beneath f x = beneath goal x)
    (k1 : up f c = some (x, i)) (h1 : up goal d = some (x, j)) (hQ : beneath f c = beneath goal d) (hj : j ∈ over R L x (beneath f c)) (e2 : f2 = if i = j then f else behind L f (false, c, j)) {ds : List Deed} (led : Led R L goal d f2 ds f3) :
    Steps R L f ((if i = j then [] else [(false, c, j)]) ++ ds) f3 ∧ beneath f3 x = beneath goal x ∧ (∀ y, y ∉ beneath goal d → up f3 y = up f y) ∧ (∀ y ∈ beneath goal d, up f3 y = up goal y) ∧ ((∀ y ∈ beneath goal d, up f y = up goal y) → i = j ∧ ds = [] ∧ f3 = f) := by
  have g := l.good
  have gg := lg.good
  have hc := g.upLt k1
  have hd := gg.upLt h1
  have hcx : c ≠ x := fun e => (g.pl c x i k1).2.1 e.symm
  have hcl : c < f.length := by rw [g.len]; exact hc
  have hcQ : c ∈ beneath goal d := by rw [← hQ]; exact (mem_ben g).mpr ⟨hc, .inl rfl⟩
  have hdQ : d ∈ beneath f c := by rw [hQ]; exact (mem_ben gg).mpr ⟨hd, .inl rfl⟩
  have F2 : Steps R L f (if i = j then [] else [(false, c, j)]) f2 ∧ (∀ y, beneath f2 y = beneath f y) ∧ up f2 c = some (x, j) ∧ ∀ y, y ≠ c → up f2 y = up f y := by
    by_cases e : i = j
    · subst e
      rw [if_pos rfl] at e2 ⊢
      subst e2
      exact ⟨.nil, fun _ => rfl, k1, fun _ _ => rfl⟩
    · rw [if_neg e] at e2 ⊢
      obtain ⟨q1, q2⟩ := shift_granted k1 hj e
      have l2 : Least R L (behind L f (false, c, j)) := l.behind S q1
      rw [← e2] at l2
      rw [q2] at e2
      refine ⟨by rw [e2, ← q2]; exact .one q1, fun y => ?_, by rw [e2, upSet hcl, if_pos rfl], fun y hy => by rw [e2, upSet hcl, if_neg hy]⟩
      rw [e2] at l2 ⊢
      exact ben_shift S l k1 l2 y
  obtain ⟨s2, b2, u2, o2⟩ := F2
  have l2 := s2.least S l
  have l3 := led.steps.least S l2
  have t3 : up f3 d = up f2 c := led.top c hc (by rw [b2]; exact hQ)
  have hcP : c ∈ beneath f2 x := by rw [b2]; exact (mem_ben g).mpr ⟨hc, .inr (by rw [arnd_some g k1]; exact List.mem_cons_self)⟩
  have A := after_turn l2.good l3.good (x := d) (h := c) (t := x) hc (by rw [b2]; exact hdQ) (fun y hy => ?_) t3 (fun y hy => led.out y (by rw [← hQ, ← b2]; exact hy)) hcP
  · rw [if_neg hcx] at A
    refine ⟨s2.trans led.steps, by rw [A.2, b2, hP], fun y hy => ?_, fun y hy => ?_, fun h => ?_⟩
    · rw [led.out y hy, o2 y fun e => hy (e ▸ hcQ)]
    · by_cases e : y = d
      · rw [e, t3, u2, h1]
      · exact led.agree y hy e
    · have hcd : c = d := by
        have h3 := h d ((mem_ben gg).mpr ⟨hd, .inl rfl⟩)
        rw [h1] at h3
        -- d lies straight in x in f too; so d is the top of beneath f c
        rcases ((mem_ben g).mp hdQ).2 with q | q
        · exact q
        · rw [arnd_some g h3] at q
          have hxc : x ∈ arnd f c := by rw [arnd_some g k1]; exact List.mem_cons_self
          rcases List.mem_cons.mp q with q | q
          · exact absurd q hcx
          · exact absurd q (arnd_anti g hxc)
      subst hcd
      have h3 := h c hcQ
      rw [k1, h1] at h3
      have e : i = j := by cases h3; rfl
      subst e
      rw [if_pos rfl] at e2
      subst e2
      obtain ⟨q1, q2⟩ := led.same hQ fun y hy _ => h y hy
      exact ⟨rfl, q1, q2⟩
  · have : y ∈ beneath f3 d := by rw [led.ben, ← hQ, ← b2]; exact hy
    exact ((mem_ben l3.good).mp this).2
end
end MM
end
section
set_option Elab.async false
set_option linter.all false
namespace MM
section
variable {R : List Nat} {L : Tab} {goal : Forest}
theorem sum_take {ps : List (List Nat)} {i : Nat} {Q : List Nat} (h : ps[i]? = some Q) : ((ps.take (i + 1)).map List.length).sum = ((ps.take i).map List.length).sum + Q.length := by
  rw [List.take_add_one, h]
  simp
theorem sum_take_le {ps : List (List Nat)} {i : Nat} : ((ps.take i).map List.length).sum ≤ (ps.map List.length).sum := by
  have e : ps.map List.length = (ps.take i).map List.length ++ (ps.drop i).map List.length := by rw [← List.map_append, List.take_append_drop]
  rw [e, List.sum_append]
  omega
theorem pair_ne {ps : List (List Nat)} (h : ps.Pairwise fun a b => ∀ x ∈ a, x ∉ b) {k i : Nat} {Q Q' : List Nat} (hk : k < i) (h1 : ps[k]? = some Q) (h2 : ps[i]? = some Q') : ∀ y ∈ Q, y ∉ Q' := by
  obtain ⟨a1, a2⟩ := List.getElem?_eq_some_iff.mp h1
  obtain ⟨b1, b2⟩ := List.getElem?_eq_some_iff.mp h2
  have := List.pairwise_iff_getElem.mp h k i a1 b1 hk
  rw [a2, b2] at this
  exact this
theorem part_at (S : SymT R.length L) {lot : List Nat} (hl : ∀ x ∈ lot, x < R.length) {y : Nat} (hy : y ∈ lot) : ∃ k Q, k < (parts L lot).length ∧ (parts L lot)[k]? = some Q ∧ y ∈ Q := by
  have h : partOf L lot y ∈ parts L lot := (mem_parts_iff S hl).mpr ⟨y, hy, rfl⟩
  obtain ⟨k, hk⟩ := List.getElem?_of_mem h
  exact ⟨k, _, (List.getElem?_eq_some_iff.mp hk).1, hk, partOf_self hy⟩
/-- lead's loop behind i inner parts -/
structure LInv (R : List Nat) (L : Tab) (goal : Forest) (x : Nat) (ps : List (List Nat)) (f1 : Forest) (i : Nat) (fi : Forest) (dl : List Deed) : Prop where
  steps : Steps R L f1 dl fi
  ben : beneath fi x = beneath goal x
  out : ∀ y, (∀ k, k < i → ∀ Q, ps[k]? = some Q → y ∉ Q) → up fi y = up f1 y
  agree : ∀ k, k < i → ∀ Q, ps[k]? = some Q → ∀ y ∈ Q, up fi y = up goal y
  same : (∀ y ∈ beneath goal x, y ≠ x → up f1 y = up goal y) → dl = [] ∧ fi = f1
  few : dl.length ≤ ((ps.take i).map List.length).sum * (R.length + 1)
theorem LInv.room (S : SymT R.length L) {f f1 : Forest} (lf : Least R L f) (lg : Least R L goal) {x : Nat} (hx : x < R.length) {n0 : Nat} (hn : n0 ≤ (climb f x).length) {i : Nat} {fi : Forest} {dl : List Deed} {Q : List Nat} (hQ : (parts L (less (beneath goal x) x))[i]? = some Q)
    (I : LInv R L goal x (parts L (less (beneath goal x) x)) f1 i fi dl) : n0 + dl.length + 1 + Q.length * (R.length + 1) ≤ (beneath goal x).length * (R.length + 1) := by
  have h1 := sum_take_le (ps := parts L (less (beneath goal x) x)) (i := i + 1)
  rw [sum_take hQ, parts_sum _ _ (Nat.le_refl _)] at h1
  have h2 := I.few
  have h3 := lf.good.climb_len x
  have hxx : x ∈ beneath goal x := (mem_ben lg.good).mpr ⟨hx, .inl rfl⟩
  have e2 : (less (beneath goal x) x).length + 1 ≤ (beneath goal x).length := by
    unfold less
    exact List.length_filter_lt_length_iff_exists.mpr ⟨x, hxx, by simp⟩
  have h4 := Nat.mul_le_mul_right (R.length + 1) (Nat.le_trans (Nat.add_le_add_right h1 1) e2)
  rw [Nat.add_mul, Nat.add_mul] at h4
  omega
theorem LInv.start {x : Nat} {ps : List (List Nat)} {f1 : Forest} (h : beneath f1 x = beneath goal x) : LInv R L goal x ps f1 0 f1 [] :=
  ⟨.nil, h, fun _ _ => rfl, fun k hk => by omega, fun _ => ⟨rfl, rfl⟩, by simp⟩
theorem LInv.next (S : SymT R.length L) {f1 : Forest} (l1 : Least R L f1) (lg : Least R L goal) {x : Nat} (hx : x < R.length) {i : Nat} {fi : Forest} {dl : List Deed} {Q : List Nat} (hQ : (parts L (less (beneath goal x) x))[i]? = some Q)
    (I : LInv R L goal x (parts L (less (beneath goal x) x)) f1 i fi dl) :
    ∃ c a d j, up fi c = some (x, a) ∧ c < R.length ∧ d < R.length ∧ beneath fi c = Q ∧ beneath goal d = Q ∧ (∀ y ∈ Q, wayTo goal y x = some j) ∧ Q.length < (beneath goal x).length ∧
      (a ≠ j → granted R L fi (false, c, j) = true) ∧
      ∀ f2, f2 = (if a = j then fi else behind L fi (false, c, j)) → Least R L f2 ∧ beneath f2 c = Q ∧
        ∀ f3 ds, Led R L goal d f2 ds f3 → LInv R L goal x (parts L (less (beneath goal x) x)) f1 (i + 1) f3 (dl ++ ((if a = j then [] else [(false, c, j)]) ++ ds)) := by
  have li := I.steps.least S l1
  have gi := li.good
  have gg := lg.good
  have hlb : ∀ y ∈ beneath goal x, y < R.length := fun y hy => ((mem_ben gg).mp hy).1
  have hl : ∀ y ∈ less (beneath goal x) x, y < R.length := fun y hy => hlb y (mem_less.mp hy).1
  obtain ⟨s, hs, hQs⟩ := (mem_parts_iff S hl).mp (List.mem_of_getElem? hQ)
  obtain ⟨c, a, d, j, k1, h1, k3, h3, hj, hw⟩ := inner_both S li lg I.ben hx hs
  rw [← hQs] at k3 h3
  have hc := gi.upLt k1
  have hd := gg.upLt h1
  have hcQ : c ∈ Q := by rw [k3]; exact (mem_ben gi).mpr ⟨hc, .inl rfl⟩
  have hxQ : x ∉ Q := fun h => by
    rw [hQs] at h
    exact (mem_less.mp (partOf_sub h)).2 rfl
  have hlen : Q.length < (beneath goal x).length := by
    have e1 : Q.length ≤ (less (beneath goal x) x).length := by rw [hQs]; exact List.length_filter_le _ _
    have e2 : (less (beneath goal x) x).length < (beneath goal x).length := by
      unfold less
      have hm : x ∈ beneath goal x := (mem_ben gg).mpr ⟨hx, .inl rfl⟩
      exact List.length_filter_lt_length_iff_exists.mpr ⟨x, hm, by simp⟩
    omega
  refine ⟨c, a, d, j, k1, hc, hd, k3.symm, h3.symm, fun y hy => hw y (h3 ▸ hy), hlen, fun hn => (shift_granted k1 hj hn).1, fun f2 e2 => ?_⟩
  have B2 : Least R L f2 ∧ beneath f2 c = Q := by
    by_cases e : a = j
    · rw [if_pos e] at e2
      subst e2
      exact ⟨li, k3.symm⟩
    · rw [if_neg e] at e2
      obtain ⟨q1, q2⟩ := shift_granted k1 hj e
      have l2 : Least R L (behind L fi (false, c, j)) := li.behind S q1
      rw [e2]
      refine ⟨l2, ?_⟩
      rw [q2] at l2 ⊢
      rw [ben_shift S li k1 l2 c, ← k3]
  refine ⟨B2.1, B2.2, fun f3 ds led => ?_⟩
  obtain ⟨p1, p2, p3, p4, p5⟩ := inner_step S li lg hx I.ben k1 h1 (by rw [← k3, h3]) hj e2 led
  rw [← h3] at p3 p4 p5
  have hdisj := parts_disj S _ _ (Nat.le_refl _) hl
  refine ⟨I.steps.trans p1, p2, fun y hy => ?_, fun k hk Q' hQ' y hy => ?_, fun h => ?_, ?_⟩
  · rw [p3 y (hy i (by omega) Q hQ)]
    exact I.out y fun k hk => hy k (by omega)
  · by_cases e : k = i
    · subst e
      rw [hQ] at hQ'
      cases hQ'
      exact p4 y hy
    · have hk : k < i := by omega
      rw [p3 y (pair_ne hdisj hk hQ' hQ y hy)]
      exact I.agree k hk Q' hQ' y hy
  · obtain ⟨r1, r2⟩ := I.same h
    subst r2
    have hQP : ∀ y ∈ Q, y ∈ beneath goal x ∧ y ≠ x := fun y hy => by
      rw [hQs] at hy
      exact mem_less.mp (partOf_sub hy)
    obtain ⟨r3, r4, r5⟩ := p5 fun y hy => h y (hQP y hy).1 (hQP y hy).2
    rw [r1, if_pos r3, r4]
    exact ⟨rfl, r5⟩
  · have h5 := led.few
    have h6 := I.few
    rw [← h3] at h5
    rw [sum_take hQ, Nat.add_mul, List.length_append, List.length_append]
    have : (if a = j then [] else [(false, c, j)] : List Deed).length ≤ 1 := by split <;> simp
    omega
theorem LInv.done (S : SymT R.length L) {f f1 : Forest} (lf : Least R L f) (lg : Least R L goal) {x : Nat} (hx : x < R.length) {dl0 : List Deed} (r1 : Steps R L f dl0 f1) (r2 : ∀ y, y ∉ beneath goal x → up f1 y = up f y)
    (r3 : ∀ t, t < R.length → beneath f t = beneath goal x → up f1 x = up f t ∧ (t = x → dl0 = [] ∧ f1 = f)) (r4 : dl0.length ≤ (climb f x).length)
    {fi : Forest} {dl : List Deed} (I : LInv R L goal x (parts L (less (beneath goal x) x)) f1 (parts L (less (beneath goal x) x)).length fi dl) : Led R L goal x f (dl0 ++ dl) fi := by
  have gg := lg.good
  have hlb : ∀ y ∈ beneath goal x, y < R.length := fun y hy => ((mem_ben gg).mp hy).1
  have hl : ∀ y ∈ less (beneath goal x) x, y < R.length := fun y hy => hlb y (mem_less.mp hy).1
  have hsub : ∀ k Q, (parts L (less (beneath goal x) x))[k]? = some Q → ∀ y ∈ Q, y ∈ less (beneath goal x) x := fun k Q hQ => parts_sub S hl (List.mem_of_getElem? hQ)
  have hxx : x ∈ beneath goal x := (mem_ben gg).mpr ⟨hx, .inl rfl⟩
  refine ⟨r1.trans I.steps, I.ben, fun y hy => ?_, fun t ht hP => ?_, fun y hy hn => ?_, fun hP hag => ?_, ?_⟩
  · rw [I.out y fun k hk Q hQ hyQ => hy (mem_less.mp (hsub k Q hQ y hyQ)).1]
    exact r2 y hy
  · rw [I.out x fun k hk Q hQ hyQ => (mem_less.mp (hsub k Q hQ x hyQ)).2 rfl]
    exact (r3 t ht hP).1
  · obtain ⟨k, Q, hk, hQ, hyQ⟩ := part_at S hl (mem_less.mpr ⟨hy, hn⟩)
    exact I.agree k hk Q hQ y hyQ
  · obtain ⟨e1, e2⟩ := (r3 x hx hP).2 rfl
    subst e2
    obtain ⟨e3, e4⟩ := I.same hag
    rw [e1, e3]
    exact ⟨rfl, e4⟩
  · have h5 := I.few
    rw [List.take_length, parts_sum _ _ (Nat.le_refl _)] at h5
    have h6 := lf.good.climb_len x
    have e2 : (less (beneath goal x) x).length + 1 ≤ (beneath goal x).length := by
      unfold less
      exact List.length_filter_lt_length_iff_exists.mpr ⟨x, hxx, by simp⟩
    have h7 := Nat.mul_le_mul_right (R.length + 1) e2
    rw [Nat.add_mul] at h7
    rw [List.length_append]
    omega
/-- a part of all, in both forms: beneath a thing on the floor -/
theorem root_both (S : SymT R.length L) {f : Forest} (l : Least R L f) {s : Nat} (hs : s < R.length) : ∃ c, up f c = none ∧ c < R.length ∧ partOf L (List.range R.length) s = beneath f c := by
  have g := l.good
  obtain ⟨c, h1, h2⟩ := root_of g s
  have hc : c < R.length := by
    rcases h2 with rfl | h2
    · exact hs
    · exact g.arndLt h2
  exact ⟨c, h1, hc, part_ben S l List.pairwise_lt_range (fun x hx => mem_all.mp hx) hc (fun y hy => mem_all.mpr ((mem_ben g).mp hy).1) (fun d _ _ hd => by rw [arnd_none h1] at hd; cases hd) ((mem_ben g).mpr ⟨hs, h2⟩)⟩
/-- walk's loop behind i parts of all -/
structure WInv (R : List Nat) (L : Tab) (goal : Forest) (f0 : Forest) (i : Nat) (fi : Forest) (dl : List Deed) : Prop where
  steps : Steps R L f0 dl fi
  agree : ∀ k, k < i → ∀ Q, (parts L (List.range R.length))[k]? = some Q → ∀ y ∈ Q, up fi y = up goal y
  same : f0 = goal → dl = [] ∧ fi = f0
  few : dl.length ≤ (((parts L (List.range R.length)).take i).map List.length).sum * (R.length + 1)
theorem WInv.start {f0 : Forest} : WInv R L goal f0 0 f0 [] := ⟨.nil, fun k hk => by omega, fun _ => ⟨rfl, rfl⟩, by simp⟩
theorem WInv.next (S : SymT R.length L) {f0 : Forest} (l0 : Least R L f0) (lg : Least R L goal) {i : Nat} {fi : Forest} {dl : List Deed} {Q : List Nat} (hQ : (parts L (List.range R.length))[i]? = some Q) (I : WInv R L goal f0 i fi dl) :
    Least R L fi ∧ ∃ c d, c < R.length ∧ d < R.length ∧ beneath fi c = Q ∧ beneath goal d = Q ∧ ∀ f3 ds, Led R L goal d fi ds f3 → WInv R L goal f0 (i + 1) f3 (dl ++ ds) := by
  have li := I.steps.least S l0
  have gi := li.good
  have gg := lg.good
  have hl : ∀ y ∈ List.range R.length, y < R.length := fun y hy => mem_all.mp hy
  obtain ⟨s, hs, hQs⟩ := (mem_parts_iff S hl).mp (List.mem_of_getElem? hQ)
  obtain ⟨c, c1, c2, c3⟩ := root_both S li (mem_all.mp hs)
  obtain ⟨d, d1, d2, d3⟩ := root_both S lg (mem_all.mp hs)
  rw [← hQs] at c3 d3
  have hdisj := parts_disj S _ _ (Nat.le_refl _) hl
  refine ⟨li, c, d, c2, d2, c3.symm, d3.symm, fun f3 ds led => ⟨I.steps.trans led.steps, fun k hk Q' hQ' y hy => ?_, fun h => ?_, ?_⟩⟩
  · by_cases e : k = i
    · subst e
      rw [hQ] at hQ'
      cases hQ'
      by_cases e2 : y = d
      · rw [e2, d1, led.top c c2 (by rw [← c3, d3]), c1]
      · exact led.agree y (d3 ▸ hy) e2
    · have hk : k < i := by omega
      rw [led.out y (by rw [← d3]; exact pair_ne hdisj hk hQ' hQ y hy)]
      exact I.agree k hk Q' hQ' y hy
  · obtain ⟨r1, r2⟩ := I.same h
    have e : fi = goal := r2.trans h
    obtain ⟨r3, r4⟩ := led.same (by rw [e]) fun y _ _ => by rw [e]
    rw [r1, r3, r4]
    exact ⟨rfl, r2⟩
  · have h5 := led.few
    have h6 := I.few
    rw [← d3] at h5
    rw [sum_take hQ, Nat.add_mul, List.length_append]
    omega
theorem WInv.done (S : SymT R.length L) {f0 : Forest} (l0 : Least R L f0) (lg : Least R L goal) {fi : Forest} {dl : List Deed} (I : WInv R L goal f0 (parts L (List.range R.length)).length fi dl) : Steps R L f0 dl goal ∧ (f0 = goal → dl = []) ∧ dl.length ≤ R.length * (R.length + 1) := by
  have li := I.steps.least S l0
  have gg := lg.good
  have hl : ∀ y ∈ List.range R.length, y < R.length := fun y hy => mem_all.mp hy
  have e : fi = goal := by
    have q1 : fi.length = goal.length := by rw [li.good.len, gg.len]
    refine List.ext_getElem q1 fun y h1 h2 => ?_
    have hy : y < R.length := by rw [← gg.len]; exact h2
    obtain ⟨k, Q, hk, hQ, hyQ⟩ := part_at S hl (mem_all.mpr hy)
    have := I.agree k hk Q hQ y hyQ
    unfold up at this
    rwa [List.getD_eq_getElem?_getD, List.getD_eq_getElem?_getD, List.getElem?_eq_getElem h1, List.getElem?_eq_getElem h2] at this
  subst e
  refine ⟨I.steps, fun h => (I.same h).1, ?_⟩
  have h5 := I.few
  rw [List.take_length, parts_sum _ _ (Nat.le_refl _), List.length_range] at h5
  exact h5
end
end MM
end
section
set_option Elab.async false
set_option maxRecDepth 100000
/-! The data layer: what an expression yields and what a statement does, told over plain data in place of the heap. -/
namespace DL
open PySem L2

/-! ### values that stand for data -/
def keyD : Key → PyData
  | .inl i => .int i
  | .inr x => .str x
mutual
inductive Rep (K : PySem.W.Frag) (H : Hp) : V → PyData → Prop
  | non : Rep K H .non .none
  | bl (b : Bool) : Rep K H (.bl b) (.bool b)
  | int (i : Int) : Rep K H (.int i) (.int i)
  | str (x : Str) : Rep K H (.str x) (.str x)
  | lst {a : Addr} {xs : List V} {ds : List PyData} : H a = some (.lst xs) → Reps K H xs ds → Rep K H (.ref a) (.list ds)
  /-- the script, told apart from other lists -/
  | scr {a : Addr} {ns : List Int} : SqL K H a (ns.map V.int) → Rep K H (.ref a) (.dict [(.none, .list (ns.map .int))])
  | tup {a : Addr} {xs : List V} {ds : List PyData} : SqT K H a xs → Reps K H xs ds → Rep K H (.ref a) (.tuple ds)
  /-- a tuple whose object is known to have no dict of its own -/
  | fzt {a : Addr} {o : Obj} {xs : List V} {ds : List PyData} : H a = some (.frz o (.tup xs)) → o.dict = none → Reps K H xs ds → Rep K H (.ref a) (.dict [(.none, .tuple ds)])
  | dT {a : Addr} {kvs : List (List Key × V)} {es : List (PyData × PyData)} : H a = some (.dT kvs) → RepKV K H kvs es → Rep K H (.ref a) (.dict es)
inductive Reps (K : PySem.W.Frag) (H : Hp) : List V → List PyData → Prop
  | nil : Reps K H [] []
  | cons {v : V} {vs : List V} {d : PyData} {ds : List PyData} : Rep K H v d → Reps K H vs ds → Reps K H (v :: vs) (d :: ds)
inductive RepKV (K : PySem.W.Frag) (H : Hp) : List (List Key × V) → List (PyData × PyData) → Prop
  | nil : RepKV K H [] []
  | cons {k : List Key} {v : V} {r : List (List Key × V)} {d : PyData} {es : List (PyData × PyData)} : Rep K H v d → RepKV K H r es → RepKV K H ((k, v) :: r) ((.tuple (k.map keyD), d) :: es)
end
/-- all that was known stays -/
def Ex (H H' : Hp) : Prop := ∀ a o, H a = some o → H' a = some o
theorem Ex.refl (H : Hp) : Ex H H := fun _ _ h => h
theorem Ex.trans {H H1 H2 : Hp} (a : Ex H H1) (b : Ex H1 H2) : Ex H H2 := fun x o h => b x o (a x o h)
theorem Ex.new {H : Hp} {p : Addr} {o : HO} (h : H p = none) : Ex H (upd H p o) := fun a u e => by
  rw [upd_ne (ne_of_none e h)]
  exact e
theorem Ex.mut {H H' : Hp} {p : Addr} {o : HO} (e : Ex H H') (h : H p = none) : Ex H (upd H' p o) := fun a u ha => by
  rw [upd_ne (ne_of_none ha h)]
  exact e a u ha
theorem Ex.rd {H H' : Hp} {a : Addr} {u : HO} (e : Ex H H') (h : Rd H a u) : Rd H' a u := by
  rcases h with h | ⟨o, h⟩
  · exact .inl (e a _ h)
  · exact .inr ⟨o, e a _ h⟩
theorem Ex.sqL {K : PySem.W.Frag} {H H' : Hp} {a : Addr} {xs : List V} (e : Ex H H') (h : SqL K H a xs) : SqL K H' a xs := by
  rcases h with h | h
  · exact .inl (e.rd h)
  · exact .inr h
theorem Ex.sqT {K : PySem.W.Frag} {H H' : Hp} {a : Addr} {xs : List V} (e : Ex H H') (h : SqT K H a xs) : SqT K H' a xs := by
  rcases h with h | h
  · exact .inl (e.rd h)
  · exact .inr h
theorem Ex.back {H H' : Hp} {p : Addr} (e : Ex H H') (h : H' p = none) : H p = none := by
  cases q : H p with
  | none => rfl
  | some o =>
    rw [e p o q] at h
    cases h
mutual
theorem Rep.mono {K : PySem.W.Frag} {H H' : Hp} (e : Ex H H') : ∀ {v : V} {d : PyData}, Rep K H v d → Rep K H' v d
  | _, _, .non => .non
  | _, _, .bl b => .bl b
  | _, _, .int i => .int i
  | _, _, .str x => .str x
  | _, _, .lst h r => .lst (e _ _ h) (Reps.mono e r)
  | _, _, .scr h => .scr (e.sqL h)
  | _, _, .tup h r => .tup (e.sqT h) (Reps.mono e r)
  | _, _, .dT h r => .dT (e _ _ h) (RepKV.mono e r)
  | _, _, .fzt h n r => .fzt (e _ _ h) n (Reps.mono e r)
theorem Reps.mono {K : PySem.W.Frag} {H H' : Hp} (e : Ex H H') : ∀ {vs : List V} {ds : List PyData}, Reps K H vs ds → Reps K H' vs ds
  | _, _, .nil => .nil
  | _, _, .cons h r => .cons (Rep.mono e h) (Reps.mono e r)
theorem RepKV.mono {K : PySem.W.Frag} {H H' : Hp} (e : Ex H H') : ∀ {vs : List (List Key × V)} {ds : List (PyData × PyData)}, RepKV K H vs ds → RepKV K H' vs ds
  | _, _, .nil => .nil
  | _, _, .cons h r => .cons (Rep.mono e h) (RepKV.mono e r)
end
section
variable {K : PySem.W.Frag} {H : Hp}
theorem Reps.length : ∀ {vs : List V} {ds : List PyData}, Reps K H vs ds → vs.length = ds.length
  | _, _, .nil => rfl
  | _, _, .cons _ r => by rw [List.length_cons, List.length_cons, Reps.length r]
theorem Reps.get : ∀ {vs : List V} {ds : List PyData} {i : Nat} {d : PyData}, Reps K H vs ds → ds[i]? = some d → ∃ v, vs[i]? = some v ∧ Rep K H v d
  | _, _, _, _, .nil, h => by simp at h
  | _, _, 0, _, .cons h _, e => by
    simp at e
    subst e
    exact ⟨_, rfl, h⟩
  | _, _, i + 1, _, .cons _ r, e => by
    obtain ⟨v, h1, h2⟩ := Reps.get (i := i) r (by simpa using e)
    exact ⟨v, by simpa using h1, h2⟩
theorem Reps.getV : ∀ {vs : List V} {ds : List PyData} {i : Nat} {v : V}, Reps K H vs ds → vs[i]? = some v → ∃ d, ds[i]? = some d ∧ Rep K H v d
  | _, _, _, _, .nil, h => by simp at h
  | _, _, 0, _, .cons h _, e => by
    simp at e
    subst e
    exact ⟨_, rfl, h⟩
  | _, _, i + 1, _, .cons _ r, e => by
    obtain ⟨v, h1, h2⟩ := Reps.getV (i := i) r (by simpa using e)
    exact ⟨v, by simpa using h1, h2⟩
theorem Reps.append : ∀ {vs us : List V} {ds es : List PyData}, Reps K H vs ds → Reps K H us es → Reps K H (vs ++ us) (ds ++ es)
  | _, _, _, _, .nil, s => s
  | _, _, _, _, .cons h r, s => .cons h (Reps.append r s)
theorem Reps.take : ∀ {vs : List V} {ds : List PyData} (n : Nat), Reps K H vs ds → Reps K H (vs.take n) (ds.take n)
  | _, _, 0, _ => .nil
  | _, _, _ + 1, .nil => .nil
  | _, _, n + 1, .cons h r => .cons h (Reps.take n r)
theorem Reps.drop : ∀ {vs : List V} {ds : List PyData} (n : Nat), Reps K H vs ds → Reps K H (vs.drop n) (ds.drop n)
  | _, _, 0, r => r
  | _, _, _ + 1, .nil => .nil
  | _, _, n + 1, .cons _ r => Reps.drop n r
theorem Reps.set : ∀ {vs : List V} {ds : List PyData} (n : Nat) {v : V} {d : PyData}, Rep K H v d → Reps K H vs ds → Reps K H (vs.set n v) (ds.set n d)
  | _, _, _, _, _, _, .nil => .nil
  | _, _, 0, _, _, q, .cons _ r => .cons q r
  | _, _, n + 1, _, _, q, .cons h r => .cons h (Reps.set n q r)
theorem Reps.erase : ∀ {vs : List V} {ds : List PyData} (n : Nat), Reps K H vs ds → Reps K H (vs.eraseIdx n) (ds.eraseIdx n)
  | _, _, _, .nil => .nil
  | _, _, 0, .cons _ r => r
  | _, _, n + 1, .cons h r => .cons h (Reps.erase n r)
theorem Reps.ints : ∀ {vs : List V} {ns : List Int}, Reps K H vs (ns.map .int) → vs = ns.map V.int
  | [], [], _ => rfl
  | _ :: _, [], h => by cases h
  | [], _ :: _, h => by cases h
  | _ :: _, _ :: _, .cons h r => by
    cases h
    rw [List.map_cons, Reps.ints r]
theorem Reps.of_ints : ∀ (ns : List Int), Reps K H (ns.map V.int) (ns.map .int)
  | [] => .nil
  | i :: ns => .cons (.int i) (Reps.of_ints ns)
theorem Reps.bools : ∀ {vs : List V} {ns : List Bool}, Reps K H vs (ns.map .bool) → vs = ns.map V.bl
  | [], [], _ => rfl
  | _ :: _, [], h => by cases h
  | [], _ :: _, h => by cases h
  | _ :: _, _ :: _, .cons h r => by
    cases h
    rw [List.map_cons, Reps.bools r]
end
mutual
theorem Rep.dp {K : PySem.W.Frag} {H : Hp} : ∀ {v : V} {d : PyData}, Rep K H v d → d.hasDict = false → Dp K H v d
  | _, _, .non, _ => .non
  | _, _, .bl b, _ => .bl b
  | _, _, .int i, _ => .int i
  | _, _, .str x, _ => .str x
  | _, _, .lst h r, e => .lst (SqL.of h) (Reps.dp r (by simpa [PyData.hasDict] using e))
  | _, _, .scr h, e => by simp [PyData.hasDict] at e
  | _, _, .tup h r, e => .tup h (Reps.dp r (by simpa [PyData.hasDict] using e))
  | _, _, .dT h r, e => by simp [PyData.hasDict] at e
  | _, _, .fzt h n r, e => by simp [PyData.hasDict] at e
theorem Reps.dp {K : PySem.W.Frag} {H : Hp} : ∀ {vs : List V} {ds : List PyData}, Reps K H vs ds → PyData.hasDictAll ds = false → DpAll K H vs ds
  | _, _, .nil, _ => .nil
  | _, _, .cons h r, e => by
    simp only [PyData.hasDictAll, Bool.or_eq_false_iff] at e
    exact .cons (Rep.dp h e.1) (Reps.dp r e.2)
end
theorem Rep.unfz {K : PySem.W.Frag} {H : Hp} {v : V} {ds : List PyData} (q : Rep K H v (.dict [(.none, .tuple ds)])) : Rep K H v (.tuple ds) := by
  cases q with
  | fzt h n r => exact .tup (.inl (.inr ⟨_, h⟩)) r
  | dT h r => cases r
end DL
end
section
set_option Elab.async false
set_option maxRecDepth 100000
namespace DL
open PySem L2

/-! ### two heaps: d, that of the data, within h, all that is known -/
structure Hs where
  d : Hp
  h : Hp
/-- from S to T: nothing known is lost; what d gets is new in h -/
structure Grow (S T : Hs) : Prop where
  dd : Ex S.d T.d
  hh : Ex S.h T.h
  dh : Ex T.d T.h
  nw : ∀ a, S.h a ≠ none → S.d a = none → T.d a = none
theorem Grow.refl {S : Hs} (h : Ex S.d S.h) : Grow S S := ⟨Ex.refl _, Ex.refl _, h, fun _ _ h => h⟩
theorem Grow.trans {S T U : Hs} (a : Grow S T) (b : Grow T U) : Grow S U :=
  ⟨a.dd.trans b.dd, a.hh.trans b.hh, b.dh, fun x h1 h2 => b.nw x (fun z => h1 (a.hh.back z)) (a.nw x h1 h2)⟩
theorem not_none {H : Hp} {a : Addr} {o : HO} (h : H a = some o) : H a ≠ none := fun z => by
  rw [z] at h
  cases h
/-- a new object that is data at once -/
theorem Grow.both {S : Hs} {p : Addr} {o : HO} (e : Ex S.d S.h) (hp : S.h p = none) : Grow S ⟨upd S.d p o, upd S.h p o⟩ := by
  refine ⟨Ex.new (e.back hp), Ex.new hp, fun a u h => ?_, fun a h1 h2 => ?_⟩
  · by_cases q : a = p
    · subst q
      change upd S.d a o a = some u at h
      change upd S.h a o a = some u
      rw [upd_same] at h ⊢
      exact h
    · change upd S.d p o a = some u at h
      change upd S.h p o a = some u
      rw [upd_ne q] at h ⊢
      exact e a u h
  · have q : a ≠ p := fun z => h1 (z ▸ hp)
    change upd S.d p o a = none
    rw [upd_ne q]
    exact h2
/-- a new object that is no data -/
theorem Grow.own {S : Hs} {p : Addr} {o : HO} (e : Ex S.d S.h) (hp : S.h p = none) : Grow S ⟨S.d, upd S.h p o⟩ :=
  ⟨Ex.refl _, Ex.new hp, e.mut (e.back hp), fun _ _ h => h⟩

/-- what a name of a def holds: data; an object of its own that it changes (l: where it stands); nothing that one asks for -/
inductive Slot
  | no
  | dat (d : PyData)
  | lst (l : Addr) (ds : List PyData)
  | dK (l : Addr) (ks : List Key)
  | dT (l : Addr) (es : List (PyData × PyData))
  | crs (C p l : Addr) (w h g : PyData) (row : List PyData)
abbrev Env := List Slot
/-- the addresses that a slot owns -/
def Slot.ads : Slot → List Addr
  | .no => []
  | .dat _ => []
  | .lst l _ => [l]
  | .dK l _ => [l]
  | .dT l _ => [l]
  | .crs _ p l _ _ _ _ => [p, l]
/-- the fields of the text's one class -/
def crsFs (vw vh vg : V) (l : Addr) : List (Str × V) := [("world", vw), ("here", vh), ("goal", vg), ("row", .ref l)]
/-- a slot as it lies in the heaps -/
def SlotAt (K : PySem.W.Frag) (S : Hs) (v : Option V) : Slot → Prop
  | .no => True
  | .dat d => ∃ u, v = some u ∧ Rep K S.d u d
  | .lst l ds => v = some (.ref l) ∧ ∃ vs, S.h l = some (.lst vs) ∧ Reps K S.d vs ds
  | .dK l ks => v = some (.ref l) ∧ S.h l = some (.dK (ks.map fun k => (k, .bl true)))
  | .dT l es => v = some (.ref l) ∧ ∃ kvs, S.h l = some (.dT kvs) ∧ RepKV K S.d kvs es
  | .crs C p l w h g row => v = some (.ref p) ∧ ∃ dx vw vh vg vs, S.h p = some (.ins C dx (crsFs vw vh vg l)) ∧ S.h l = some (.lst vs) ∧
      Rep K S.d vw w ∧ Rep K S.d vh h ∧ Rep K S.d vg g ∧ Reps K S.d vs row
structure RepS (K : PySem.W.Frag) (B S : Hs) (σ : St) (ρ : Env) : Prop where
  gr : Grow B S
  len : σ.length = ρ.length
  at_ : ∀ i, SlotAt K S (σ[i]?).join (ρ.getD i .no)
  ap : ∀ i j a, a ∈ (ρ.getD i .no).ads → a ∈ (ρ.getD j .no).ads → i = j
  own : ∀ i a, a ∈ (ρ.getD i .no).ads → S.d a = none ∧ B.h a = none

section
variable {K : PySem.W.Frag} {B S T : Hs} {σ : St} {ρ : Env}
/-- what a slot owns is not touched -/
theorem SlotAt.frame {v : Option V} {s : Slot} (h : SlotAt K S v s) (dd : Ex S.d T.d) (hh : ∀ a ∈ s.ads, ∀ u, S.h a = some u → T.h a = some u) : SlotAt K T v s := by
  cases s with
  | no => exact h
  | dat d =>
    obtain ⟨u, h2, h3⟩ := h
    exact ⟨u, h2, h3.mono dd⟩
  | lst l ds =>
    obtain ⟨h2, vs, h3, h4⟩ := h
    exact ⟨h2, vs, hh l (by simp [Slot.ads]) _ h3, h4.mono dd⟩
  | dK l ks =>
    obtain ⟨h2, h3⟩ := h
    exact ⟨h2, hh l (by simp [Slot.ads]) _ h3⟩
  | dT l es =>
    obtain ⟨h2, kvs, h3, h4⟩ := h
    exact ⟨h2, kvs, hh l (by simp [Slot.ads]) _ h3, h4.mono dd⟩
  | crs C p l w h' g' row =>
    obtain ⟨h2, dx, vw, vh, vg, vs, h3, h4, h5, h6, h7, h8⟩ := h
    exact ⟨h2, dx, vw, vh, vg, vs, hh p (by simp [Slot.ads]) _ h3, hh l (by simp [Slot.ads]) _ h4, h5.mono dd, h6.mono dd, h7.mono dd, h8.mono dd⟩
theorem SlotAt.grow {v : Option V} {s : Slot} (h : SlotAt K S v s) (g : Grow S T) : SlotAt K T v s := h.frame g.dd fun a _ u e => g.hh a u e
/-- the addresses of a slot are known -/
theorem SlotAt.there {v : Option V} {s : Slot} (h : SlotAt K S v s) : ∀ a ∈ s.ads, S.h a ≠ none := by
  intro a ha
  cases s with
  | no => cases ha
  | dat d => cases ha
  | lst l ds =>
    obtain ⟨_, vs, h3, _⟩ := h
    have ha : a = l := by simpa [Slot.ads] using ha
    exact ha ▸ not_none h3
  | dK l ks =>
    obtain ⟨_, h3⟩ := h
    have ha : a = l := by simpa [Slot.ads] using ha
    exact ha ▸ not_none h3
  | dT l es =>
    obtain ⟨_, kvs, h3, _⟩ := h
    have ha : a = l := by simpa [Slot.ads] using ha
    exact ha ▸ not_none h3
  | crs C p l w h' g' row =>
    obtain ⟨_, dx, vw, vh, vg, vs, h3, h4, _⟩ := h
    have ha : a = p ∨ a = l := by simpa [Slot.ads] using ha
    rcases ha with ha | ha
    · exact ha ▸ not_none h3
    · exact ha ▸ not_none h4
theorem RepS.grow (r : RepS K B S σ ρ) (g : Grow S T) : RepS K B T σ ρ :=
  ⟨r.gr.trans g, r.len, fun i => (r.at_ i).grow g, r.ap, fun i a ha => ⟨g.nw a ((r.at_ i).there a ha) (r.own i a ha).1, (r.own i a ha).2⟩⟩
theorem getD_of {ρ : Env} {i : Nat} {s : Slot} (e : ρ[i]? = some s) : ρ.getD i .no = s := by
  rw [List.getD_eq_getElem?_getD, e]
  rfl
theorem RepS.slot (r : RepS K B S σ ρ) {i : Nat} {s : Slot} (e : ρ[i]? = some s) : SlotAt K S (σ[i]?).join s := by
  have h := r.at_ i
  rwa [getD_of e] at h
theorem join_some {o : Option (Option V)} {u : V} (h : o.join = some u) : o = some (some u) := by
  cases o with
  | none => cases h
  | some o =>
    have h : o = some u := h
    rw [h]
theorem RepS.dat (r : RepS K B S σ ρ) {i : Nat} {d : PyData} (e : ρ[i]? = some (.dat d)) : ∃ u, σ[i]? = some (some u) ∧ Rep K S.d u d := by
  obtain ⟨u, h, q⟩ := r.slot e
  exact ⟨u, join_some h, q⟩
/-- one slot is changed, with what it owns -/
theorem RepS.change (r : RepS K B S σ ρ) {i : Nat} {σ' : St} {ρ' : Env} (gr : Grow B T) (dd : Ex S.d T.d) (len : σ'.length = ρ'.length)
    (hσ : ∀ j, j ≠ i → σ'[j]? = σ[j]?) (hρ : ∀ j, j ≠ i → ρ'.getD j .no = ρ.getD j .no) (q1 : SlotAt K T (σ'[i]?).join (ρ'.getD i .no))
    (q2 : ∀ a ∈ (ρ'.getD i .no).ads, (∀ j, j ≠ i → a ∉ (ρ.getD j .no).ads) ∧ T.d a = none ∧ B.h a = none)
    (q3 : ∀ j, j ≠ i → ∀ a ∈ (ρ.getD j .no).ads, (∀ u, S.h a = some u → T.h a = some u) ∧ T.d a = none) : RepS K B T σ' ρ' := by
  refine ⟨gr, len, fun j => ?_, fun j k a ha hb => ?_, fun j a ha => ?_⟩
  · by_cases e : j = i
    · subst e
      exact q1
    · rw [hσ j e, hρ j e]
      exact (r.at_ j).frame dd fun a ha u hu => (q3 j e a ha).1 u hu
  · by_cases e : j = i
    · by_cases e' : k = i
      · rw [e, e']
      · rw [e] at ha
        rw [hρ k e'] at hb
        exact absurd hb ((q2 a ha).1 k e')
    · by_cases e' : k = i
      · rw [e'] at hb
        rw [hρ j e] at ha
        exact absurd ha ((q2 a hb).1 j e)
      · rw [hρ j e] at ha
        rw [hρ k e'] at hb
        exact r.ap j k a ha hb
  · by_cases e : j = i
    · rw [e] at ha
      exact (q2 a ha).2
    · rw [hρ j e] at ha
      exact ⟨(q3 j e a ha).2, (r.own j a ha).2⟩
theorem getD_set_ne {ρ : Env} {i j : Nat} {s : Slot} (h : j ≠ i) : (ρ.set i s).getD j .no = ρ.getD j .no := by
  rw [List.getD_eq_getElem?_getD, List.getElem?_set_ne (fun z => h z.symm), ← List.getD_eq_getElem?_getD]
theorem getD_set_self {ρ : Env} {i : Nat} {s : Slot} (h : i < ρ.length) : (ρ.set i s).getD i .no = s := by
  rw [List.getD_eq_getElem?_getD, List.getElem?_set_self h]
  rfl
theorem set_ge {α : Type} {l : List α} {i : Nat} {x : α} (h : l.length ≤ i) : l.set i x = l := by
  apply List.ext_getElem?
  intro j
  by_cases e : j = i
  · subst e
    rw [List.getElem?_eq_none (by rw [List.length_set]; omega), List.getElem?_eq_none h]
  · rw [List.getElem?_set_ne (fun z => e z.symm)]
/-- a name gets a value -/
theorem RepS.set (r : RepS K B S σ ρ) (i : Nat) {v : V} {s : Slot} (q : SlotAt K S (some v) s) (h : ∀ a ∈ s.ads, (∀ j, a ∉ (ρ.getD j .no).ads) ∧ S.d a = none ∧ B.h a = none) : RepS K B S (σ.set i (some v)) (ρ.set i s) := by
  by_cases hi : i < ρ.length
  · refine r.change (i := i) r.gr (Ex.refl _) (by rw [List.length_set, List.length_set, r.len]) (fun j e => List.getElem?_set_ne (fun z => e z.symm)) (fun j e => getD_set_ne e) ?_ (fun a ha => ?_) fun j e a ha => ⟨fun u hu => hu, (r.own j a ha).1⟩
    · rw [getD_set_self hi, List.getElem?_set_self (by rw [r.len]; exact hi)]
      exact q
    · rw [getD_set_self hi] at ha
      exact ⟨fun j _ => (h a ha).1 j, (h a ha).2⟩
  · rw [set_ge (by rw [r.len]; omega), set_ge (by omega)]
    exact r
theorem RepS.setDat (r : RepS K B S σ ρ) (i : Nat) {v : V} {d : PyData} (q : Rep K S.d v d) : RepS K B S (σ.set i (some v)) (ρ.set i (.dat d)) :=
  r.set i ⟨v, rfl, q⟩ fun a ha => by cases ha
/-- a slot is forgotten -/
theorem RepS.forget (r : RepS K B S σ ρ) (i : Nat) : RepS K B S σ (ρ.set i .no) := by
  by_cases hi : i < ρ.length
  · refine r.change (i := i) r.gr (Ex.refl _) (by rw [List.length_set, r.len]) (fun j e => rfl) (fun j e => getD_set_ne e) ?_ (fun a ha => ?_) fun j e a ha => ⟨fun u hu => hu, (r.own j a ha).1⟩
    · rw [getD_set_self hi]
      trivial
    · rw [getD_set_self hi] at ha
      cases ha
  · rw [set_ge (l := ρ) (by omega)]
    exact r
/-- an object that no slot owns becomes data -/
theorem RepS.publish (r : RepS K B S σ ρ) {l : Addr} {o : HO} (hl : S.h l = some o) (hd : S.d l = none) (hb : B.h l = none) (h : ∀ j, l ∉ (ρ.getD j .no).ads) : RepS K B ⟨upd S.d l o, S.h⟩ σ ρ := by
  have dd : Ex S.d (upd S.d l o) := Ex.new hd
  refine ⟨⟨r.gr.dd.trans dd, r.gr.hh, fun a u e => ?_, fun a h1 h2 => ?_⟩, r.len, fun i => (r.at_ i).frame dd fun a _ u e => e, r.ap, fun i a ha => ⟨?_, (r.own i a ha).2⟩⟩
  · by_cases q : a = l
    · subst q
      change upd S.d a o a = some u at e
      rw [upd_same] at e
      rw [← e]
      exact hl
    · change upd S.d l o a = some u at e
      rw [upd_ne q] at e
      exact r.gr.dh a u e
  · have q : a ≠ l := fun z => h1 (z ▸ hb)
    change upd S.d l o a = none
    rw [upd_ne q]
    exact r.gr.nw a h1 h2
  · have q : a ≠ l := fun z => h i (z ▸ ha)
    change upd S.d l o a = none
    rw [upd_ne q]
    exact (r.own i a ha).1
/-- what slot i owns stands otherwise now -/
theorem RepS.mutate (r : RepS K B S σ ρ) {i : Nat} {s s' : Slot} {l : Addr} {o : HO} (e : ρ[i]? = some s) (hl : l ∈ s.ads) (he : s'.ads = s.ads) (q : SlotAt K ⟨S.d, upd S.h l o⟩ (σ[i]?).join s') : RepS K B ⟨S.d, upd S.h l o⟩ σ (ρ.set i s') := by
  have hi : i < ρ.length := (List.getElem?_eq_some_iff.mp e).1
  have hg := getD_of e
  have ho := r.own i l (by rw [hg]; exact hl)
  have dh : Ex S.d (upd S.h l o) := r.gr.dh.mut ho.1
  refine r.change (i := i) (T := ⟨S.d, upd S.h l o⟩) ⟨r.gr.dd, r.gr.hh.mut ho.2, dh, r.gr.nw⟩ (Ex.refl _) (by rw [List.length_set, r.len]) (fun j e => rfl) (fun j e => getD_set_ne e) ?_ (fun a ha => ?_) fun j e a ha => ?_
  · rw [getD_set_self hi]
    exact q
  · rw [getD_set_self hi, he] at ha
    exact ⟨fun j hj hb => hj (r.ap j i a hb (by rw [hg]; exact ha)), r.own i a (by rw [hg]; exact ha)⟩
  · refine ⟨fun u hu => ?_, (r.own j a ha).1⟩
    have ne : a ≠ l := fun z => e (r.ap j i a ha (by rw [hg, z]; exact hl))
    change upd S.h l o a = some u
    rw [upd_ne ne]
    exact hu
end
end DL
end
section
set_option Elab.async false
set_option maxRecDepth 100000
namespace DL
open PySem L2

/-! ### what is said of syntax, over data -/
abbrev DTE := Env → (PyData → Env → Prop) → Prop
abbrev DTT := Env → (Bool → Env → Prop) → Prop
abbrev DTA := Env → (List PyData → Env → Prop) → Prop
abbrev DTF := Env → (Slot → Env → Prop) → Prop
def tD (K : PySem.W.Frag) (δ : DTE) : TE := fun σ H Q => ∃ B S ρ k, H = S.h ∧ RepS K B S σ ρ ∧ δ ρ k ∧
  ∀ v d ρ' S', Ex S.d S'.d → RepS K B S' σ ρ' → Rep K S'.d v d → k d ρ' → Q v S'.h
def tDT (K : PySem.W.Frag) (δ : DTT) : TT := fun σ H Q => ∃ B S ρ k, H = S.h ∧ RepS K B S σ ρ ∧ δ ρ k ∧
  ∀ b ρ' S', Ex S.d S'.d → RepS K B S' σ ρ' → k b ρ' → Q b S'.h
def tDA (K : PySem.W.Frag) (δ : DTA) : TA := fun σ H Q => ∃ B S ρ k, H = S.h ∧ RepS K B S σ ρ ∧ δ ρ k ∧
  ∀ vs ds ρ' S', Ex S.d S'.d → RepS K B S' σ ρ' → Reps K S'.d vs ds → k ds ρ' → Q vs S'.h
/-- a new object of its own -/
def tDF (K : PySem.W.Frag) (δ : DTF) : TE := fun σ H Q => ∃ B S ρ k, H = S.h ∧ RepS K B S σ ρ ∧ δ ρ k ∧
  ∀ v s ρ' S', Ex S.d S'.d → RepS K B S' σ ρ' → SlotAt K S' (some v) s → (∀ a ∈ s.ads, (∀ j, a ∉ (ρ'.getD j .no).ads) ∧ S'.d a = none ∧ B.h a = none) → k s ρ' → Q v S'.h
structure DEnds where
  nx : Env → Prop
  rt : PyData → Env → Prop
  bk : Env → Prop := fun _ => False
  ct : Env → Prop := fun _ => False
  rf : Slot → Env → Prop := fun _ _ => False
abbrev DTS := DEnds → Env → Prop
structure Tie (K : PySem.W.Frag) (B : Hs) (DD : DEnds) (D : Ends) : Prop where
  nx : ∀ σ S ρ, RepS K B S σ ρ → DD.nx ρ → D.nx σ S.h
  rt : ∀ v d σ S ρ, RepS K B S σ ρ → Rep K S.d v d → DD.rt d ρ → D.rt v S.h
  bk : ∀ σ S ρ, RepS K B S σ ρ → DD.bk ρ → D.bk σ S.h
  ct : ∀ σ S ρ, RepS K B S σ ρ → DD.ct ρ → D.ct σ S.h
  rf : ∀ v s σ S ρ, RepS K B S σ ρ → SlotAt K S (some v) s → (∀ a ∈ s.ads, S.d a = none ∧ B.h a = none) → DD.rf s ρ → D.rt v S.h
def tDS (K : PySem.W.Frag) (δ : DTS) : TS := fun D σ H => ∃ B S ρ DD, H = S.h ∧ RepS K B S σ ρ ∧ δ DD ρ ∧ Tie K B DD D

section
variable {X : Cx}
theorem PE.weak {e : Expr} {t t' : TE} (h : PE X e t) (w : ∀ σ H Q, t' σ H Q → t σ H Q) : PE X e t' := ⟨fun pins s σ H Q I q => h.run pins s σ H Q I (w σ H Q q)⟩
theorem PT.weak {e : Expr} {t t' : TT} (h : PT X e t) (w : ∀ σ H Q, t' σ H Q → t σ H Q) : PT X e t' := ⟨fun pins s σ H Q I q => h.run pins s σ H Q I (w σ H Q q)⟩
theorem PW.weak {e : Expr} {t t' : TT} (h : PW X e t) (w : ∀ σ H Q, t' σ H Q → t σ H Q) : PW X e t' := ⟨fun wh pins s σ H Q I q => h.run wh pins s σ H Q I (w σ H Q q)⟩
theorem PA.weak {e : List Expr} {t t' : TA} (h : PA X e t) (w : ∀ σ H Q, t' σ H Q → t σ H Q) : PA X e t' := ⟨fun pos pins s σ H Q I q => h.run pos pins s σ H Q I (w σ H Q q)⟩
theorem PTs.weak {e : List Expr} {t t' : TT} (h : PTs X e t) (w : ∀ σ H Q, t' σ H Q → t σ H Q) : PTs X e t' := ⟨fun pins s σ H Q I q => h.run pins s σ H Q I (w σ H Q q)⟩
theorem PS.weak {e : Stmt} {t t' : TS} (h : PS X e t) (w : ∀ D σ H, t' D σ H → t D σ H) : PS X e t' := ⟨fun pins s σ H D I q => h.run pins s σ H D I (w D σ H q)⟩
theorem PSs.weak {e : List Stmt} {t t' : TS} (h : PSs X e t) (w : ∀ D σ H, t' D σ H → t D σ H) : PSs X e t' := ⟨fun pins s σ H D I q => h.run pins s σ H D I (w D σ H q)⟩

/-! ### names and constants -/
@[simp] def dVar (i : Nat) : DTE := fun ρ k => ∃ d, ρ[i]? = some (.dat d) ∧ k d ρ
@[simp] def dC (d : PyData) : DTE := fun ρ k => k d ρ
theorem RepS.self {K : PySem.W.Frag} {B S : Hs} {σ : St} {ρ : Env} (r : RepS K B S σ ρ) : Grow S S := Grow.refl r.gr.dh
theorem dv (i : Nat) {x : Str} {pos : Pos} (hN : X.N[i]? = some x := by rfl) (hv : Vis X.env.scope x := by first | exact Or.inl rfl | exact Or.inr (Or.inl rfl) | exact Or.inr (Or.inr rfl)) (hd : (x == ("__debug__" : Str)) = false := by decide)
    (hcd : (x == ("__classdict__" : Str)) = false := by decide) : PE X (.Name x pos) (tD X.K (dVar i)) := PE.weak (pe_var hN hv hd hcd) fun σ H Q h => by
  obtain ⟨B, S, ρ, k, rfl, r, ⟨d, e, hk⟩, c⟩ := h
  obtain ⟨u, h1, h2⟩ := r.dat e
  exact ⟨u, h1, c u d ρ S (Ex.refl _) r h2 hk⟩
theorem de_const {e : Expr} {v : V} {d : PyData} (h : PE X e (tC v)) (q : ∀ H, Rep X.K H v d) : PE X e (tD X.K (dC d)) := PE.weak h fun σ H Q h => by
  obtain ⟨B, S, ρ, k, rfl, r, hk, c⟩ := h
  exact c v d ρ S (Ex.refl _) r (q _) hk
theorem de_int {i j pos} : PE X (.Constant (.int i) j pos) (tD X.K (dC (.int i))) := de_const pe_int fun _ => .int _
theorem de_bl {b j pos} : PE X (.Constant (.bool b) j pos) (tD X.K (dC (.bool b))) := de_const pe_bl fun _ => .bl _
theorem de_non {j pos} : PE X (.Constant .none j pos) (tD X.K (dC .none)) := de_const pe_non fun _ => .non
theorem de_str {x j pos} : PE X (.Constant (.str x) j pos) (tD X.K (dC (.str x))) := de_const pe_str fun _ => .str _
/-- a constant of the module -/
theorem de_glob {x : Str} {v : V} {u : Value} {d : PyData} {pos : Pos} (hg : Gl X x) (hm : X.mg x = some u) (r : RelV v u) (q : ∀ H, Rep X.K H v d) (hd : (x == ("__debug__" : Str)) = false := by decide) : PE X (.Name x pos) (tD X.K (dC d)) :=
  de_const (pe_glob hg hm r hd) q

/-! ### operations -/
/-- what a result may be: data already there, or new -/
def Out (K : PySem.W.Frag) (S : Hs) (Q : VK) (k : PyData → Prop) : Prop := ∀ v d T, Grow S T → Rep K T.d v d → k d → Q v T.h
abbrev DR2 := PyData → PyData → (PyData → Prop) → Prop
abbrev DRn := List PyData → (PyData → Prop) → Prop
def Lift2 (K : PySem.W.Frag) (r2 : R2) (r : DR2) : Prop := ∀ S v u x y k Q, Ex S.d S.h → Rep K S.d v x → Rep K S.d u y → r x y k → Out K S Q k → r2 v u S.h Q
def LiftN (K : PySem.W.Frag) (rn : List V → Hp → VK → Prop) (r : DRn) : Prop := ∀ S vs xs k Q, Ex S.d S.h → Reps K S.d vs xs → r xs k → Out K S Q k → rn vs S.h Q
@[simp] def dOp (r : DR2) (α β : DTE) : DTE := fun ρ k => α ρ fun x ρ1 => β ρ1 fun y ρ2 => r x y fun z => k z ρ2
variable {a b c : Expr} {α β γ : DTE} {pos : Pos}
theorem lift_op {r2 : R2} {r : DR2} {ta tb : TE} (l : Lift2 X.K r2 r) (hα : ∀ σ H Q, tD X.K α σ H Q → ta σ H Q) (hβ : ∀ σ H Q, tD X.K β σ H Q → tb σ H Q) : ∀ σ H Q, tD X.K (dOp r α β) σ H Q → tOp r2 ta tb σ H Q := by
  intro σ H Q h
  obtain ⟨B, S, ρ, k, rfl, r0, h, c⟩ := h
  refine hα _ _ _ ⟨B, S, ρ, _, rfl, r0, h, fun v x ρ1 S1 e1 r1 q1 h1 => ?_⟩
  refine hβ _ _ _ ⟨B, S1, ρ1, _, rfl, r1, h1, fun u y ρ2 S2 e2 r2' q2 h2 => ?_⟩
  refine l S2 v u x y _ Q r2'.gr.dh (q1.mono e2) q2 h2 fun z d T g qz hz => ?_
  exact c z d ρ2 T ((e1.trans e2).trans g.dd) (r2'.grow g) qz hz
theorem de_op {op : Operator} {r2 : R2} {r : DR2} (ho : OpR X (binaryOp op) r2) (l : Lift2 X.K r2 r) (ha : PE X a (tD X.K α)) (hb : PE X b (tD X.K β)) : PE X (.BinOp a op b pos) (tD X.K (dOp r α β)) :=
  PE.weak (pe_op ho ha hb) (lift_op l (fun _ _ _ h => h) fun _ _ _ h => h)
theorem de_cmp {op : CmpOp} {r2 : R2} {r : DR2} (ho : OpR X (compareOp op) r2) (l : Lift2 X.K r2 r) (ha : PE X a (tD X.K α)) (hb : PE X b (tD X.K β)) (h1 : behindInMarks op b = false) : PE X (.Compare a [op] [b] pos) (tD X.K (dOp r α β)) :=
  PE.weak (pe_cmpR ho ha hb h1) (lift_op l (fun _ _ _ h => h) fun _ _ _ h => h)
/-- a bool as a test -/
@[simp] def dTst (α : DTE) : DTT := fun ρ k => α ρ fun d ρ1 => ∃ b, d = .bool b ∧ k b ρ1
theorem lift_tst {ta : TE} (hα : ∀ σ H Q, tD X.K α σ H Q → ta σ H Q) : ∀ σ H Q, tDT X.K (dTst α) σ H Q → ta σ H fun x H1 => ∃ c, x = .bl c ∧ Q c H1 := by
  intro σ H Q h
  obtain ⟨B, S, ρ, k, rfl, r0, h, c⟩ := h
  refine hα _ _ _ ⟨B, S, ρ, _, rfl, r0, h, fun v x ρ1 S1 e1 r1 q1 h1 => ?_⟩
  obtain ⟨b, rfl, hk⟩ := h1
  cases q1
  exact ⟨b, rfl, c b ρ1 S1 e1 r1 hk⟩
theorem dt_cmp {op : CmpOp} {r2 : R2} {r : DR2} (ho : OpR X (compareOp op) r2) (l : Lift2 X.K r2 r) (ha : PE X a (tD X.K α)) (hb : PE X b (tD X.K β)) (h1 : behindInMarks op b = false) : PT X (.Compare a [op] [b] pos) (tDT X.K (dTst (dOp r α β))) :=
  PT.weak (pt_cmpR ho ha hb h1) (lift_tst (lift_op l (fun _ _ _ h => h) fun _ _ _ h => h))
/-- an expression that gives a bool, as a test -/
theorem dt_val (ha : PE X a (tD X.K α)) (he : ∀ whole, isTrue a X.env whole = (do let v ← whole; standAt a.pos; holding [v] (truthy v)) := by intro _; rfl) : PT X a (tDT X.K (dTst α)) :=
  PT.weak (pt_val ha he) (lift_tst fun _ _ _ h => h)

/-! ### and, or, not, if -/
variable {τ υ : DTT} {rest : List Expr}
@[simp] def dAnd (τ υ : DTT) : DTT := fun ρ k => τ ρ fun c ρ1 => if c = true then υ ρ1 k else k false ρ1
@[simp] def dOr (τ υ : DTT) : DTT := fun ρ k => τ ρ fun c ρ1 => if c = true then k true ρ1 else υ ρ1 k
@[simp] def dNot (τ : DTT) : DTT := fun ρ k => τ ρ fun c ρ1 => k (!c) ρ1
@[simp] def dAndV (α β : DTE) : DTE := fun ρ k => α ρ fun x ρ1 => ∃ c, x = .bool c ∧ if c = true then β ρ1 k else k (.bool false) ρ1
@[simp] def dOrV (α β : DTE) : DTE := fun ρ k => α ρ fun x ρ1 => ∃ c, x = .bool c ∧ if c = true then k (.bool true) ρ1 else β ρ1 k
@[simp] def dNotV (α : DTE) : DTE := fun ρ k => α ρ fun x ρ1 => ∃ c, x = .bool c ∧ k (.bool (!c)) ρ1
@[simp] def dIf (τ : DTT) (α β : DTE) : DTE := fun ρ k => τ ρ fun c ρ1 => if c = true then α ρ1 k else β ρ1 k
theorem lift_and : ∀ σ H Q, tDT X.K (dAnd τ υ) σ H Q → tAnd (tDT X.K τ) (tDT X.K υ) σ H Q := by
  intro σ H Q h
  obtain ⟨B, S, ρ, k, rfl, r0, h, c⟩ := h
  refine ⟨B, S, ρ, _, rfl, r0, h, fun x ρ1 S1 e1 r1 h1 => ?_⟩
  cases x with
  | true => exact ⟨B, S1, ρ1, k, rfl, r1, h1, fun b ρ2 S2 e2 r2 h2 => c b ρ2 S2 (e1.trans e2) r2 h2⟩
  | false => exact c false ρ1 S1 e1 r1 h1
theorem lift_or : ∀ σ H Q, tDT X.K (dOr τ υ) σ H Q → tOr (tDT X.K τ) (tDT X.K υ) σ H Q := by
  intro σ H Q h
  obtain ⟨B, S, ρ, k, rfl, r0, h, c⟩ := h
  refine ⟨B, S, ρ, _, rfl, r0, h, fun x ρ1 S1 e1 r1 h1 => ?_⟩
  cases x with
  | true => exact c true ρ1 S1 e1 r1 h1
  | false => exact ⟨B, S1, ρ1, k, rfl, r1, h1, fun b ρ2 S2 e2 r2 h2 => c b ρ2 S2 (e1.trans e2) r2 h2⟩
theorem dw_and1 (ha : PT X a (tDT X.K τ)) : PW X (.BoolOp .And [a] pos) (tDT X.K τ) := pw_and1 ha
theorem dw_or1 (ha : PT X a (tDT X.K τ)) : PW X (.BoolOp .Or [a] pos) (tDT X.K τ) := pw_or1 ha
theorem dw_and (ha : PT X a (tDT X.K τ)) (hb : PW X (.BoolOp .And (b :: rest) pos) (tDT X.K υ)) : PW X (.BoolOp .And (a :: b :: rest) pos) (tDT X.K (dAnd τ υ)) := PW.weak (pw_and ha hb) lift_and
theorem dw_or (ha : PT X a (tDT X.K τ)) (hb : PW X (.BoolOp .Or (b :: rest) pos) (tDT X.K υ)) : PW X (.BoolOp .Or (a :: b :: rest) pos) (tDT X.K (dOr τ υ)) := PW.weak (pw_or ha hb) lift_or
theorem dt_not (ha : PT X a (tDT X.K τ)) : PT X (.UnaryOp .Not a pos) (tDT X.K (dNot τ)) := PT.weak (pt_not ha) fun σ H Q h => by
  obtain ⟨B, S, ρ, k, rfl, r0, h, c⟩ := h
  exact ⟨B, S, ρ, _, rfl, r0, h, fun x ρ1 S1 e1 r1 h1 => c (!x) ρ1 S1 e1 r1 h1⟩
theorem de_one {op} (h : PE X a (tD X.K α)) : PE X (.BoolOp op [a] pos) (tD X.K α) := pe_one h
theorem de_and (ha : PE X a (tD X.K α)) (hb : PE X (.BoolOp .And (b :: rest) pos) (tD X.K β)) : PE X (.BoolOp .And (a :: b :: rest) pos) (tD X.K (dAndV α β)) := PE.weak (pe_and ha hb) fun σ H Q h => by
  obtain ⟨B, S, ρ, k, rfl, r0, h, c⟩ := h
  refine ⟨B, S, ρ, _, rfl, r0, h, fun v x ρ1 S1 e1 r1 q1 h1 => ?_⟩
  obtain ⟨z, rfl, h1⟩ := h1
  cases q1
  refine ⟨z, rfl, ?_⟩
  cases z with
  | true => exact ⟨B, S1, ρ1, k, rfl, r1, h1, fun b d ρ2 S2 e2 r2 q2 h2 => c b d ρ2 S2 (e1.trans e2) r2 q2 h2⟩
  | false => exact c _ _ ρ1 S1 e1 r1 (.bl _) h1
theorem de_or (ha : PE X a (tD X.K α)) (hb : PE X (.BoolOp .Or (b :: rest) pos) (tD X.K β)) : PE X (.BoolOp .Or (a :: b :: rest) pos) (tD X.K (dOrV α β)) := PE.weak (pe_or ha hb) fun σ H Q h => by
  obtain ⟨B, S, ρ, k, rfl, r0, h, c⟩ := h
  refine ⟨B, S, ρ, _, rfl, r0, h, fun v x ρ1 S1 e1 r1 q1 h1 => ?_⟩
  obtain ⟨z, rfl, h1⟩ := h1
  cases q1
  refine ⟨z, rfl, ?_⟩
  cases z with
  | true => exact c _ _ ρ1 S1 e1 r1 (.bl _) h1
  | false => exact ⟨B, S1, ρ1, k, rfl, r1, h1, fun b d ρ2 S2 e2 r2 q2 h2 => c b d ρ2 S2 (e1.trans e2) r2 q2 h2⟩
theorem de_not (ha : PE X a (tD X.K α)) : PE X (.UnaryOp .Not a pos) (tD X.K (dNotV α)) := PE.weak (pe_not ha) fun σ H Q h => by
  obtain ⟨B, S, ρ, k, rfl, r0, h, c⟩ := h
  refine ⟨B, S, ρ, _, rfl, r0, h, fun v x ρ1 S1 e1 r1 q1 h1 => ?_⟩
  obtain ⟨z, rfl, h1⟩ := h1
  cases q1
  exact ⟨z, rfl, c _ _ ρ1 S1 e1 r1 (.bl _) h1⟩
theorem de_if (hc : PT X c (tDT X.K τ)) (ha : PE X a (tD X.K α)) (hb : PE X b (tD X.K β)) : PE X (.IfExp c a b pos) (tD X.K (dIf τ α β)) := PE.weak (pe_ifExp hc ha hb) fun σ H Q h => by
  obtain ⟨B, S, ρ, k, rfl, r0, h, c⟩ := h
  refine ⟨B, S, ρ, _, rfl, r0, h, fun z ρ1 S1 e1 r1 h1 => ?_⟩
  cases z with
  | true => exact ⟨B, S1, ρ1, k, rfl, r1, h1, fun b d ρ2 S2 e2 r2 q2 h2 => c b d ρ2 S2 (e1.trans e2) r2 q2 h2⟩
  | false => exact ⟨B, S1, ρ1, k, rfl, r1, h1, fun b d ρ2 S2 e2 r2 q2 h2 => c b d ρ2 S2 (e1.trans e2) r2 q2 h2⟩

/-! ### arguments, tuples, lists -/
variable {e : Expr} {es : List Expr} {ω : DTA}
@[simp] def dNil : DTA := fun ρ k => k [] ρ
@[simp] def dCons (α : DTE) (ω : DTA) : DTA := fun ρ k => α ρ fun x ρ1 => ω ρ1 fun xs ρ2 => k (x :: xs) ρ2
theorem da_nil : PA X [] (tDA X.K dNil) := PA.weak pa_nil fun σ H Q h => by
  obtain ⟨B, S, ρ, k, rfl, r0, h, c⟩ := h
  exact c [] [] ρ S (Ex.refl _) r0 .nil h
theorem da_cons (ha : PE X e (tD X.K α)) (hr : PA X es (tDA X.K ω)) (hs : starEach (e :: es) X.env = (false, eval e X.env) :: starEach es X.env := by rfl) : PA X (e :: es) (tDA X.K (dCons α ω)) := PA.weak (pa_cons ha hr hs) fun σ H Q h => by
  obtain ⟨B, S, ρ, k, rfl, r0, h, c⟩ := h
  refine ⟨B, S, ρ, _, rfl, r0, h, fun v x ρ1 S1 e1 r1 q1 h1 => ?_⟩
  refine ⟨B, S1, ρ1, _, rfl, r1, h1, fun vs xs ρ2 S2 e2 r2 q2 h2 => ?_⟩
  exact c _ _ ρ2 S2 (e1.trans e2) r2 (.cons (q1.mono e2) q2) h2
@[simp] def dTup (ω : DTA) : DTE := fun ρ k => ω ρ fun xs ρ1 => xs.length ≤ sizeLine ∧ k (.tuple xs) ρ1
theorem de_tup {x1} (h : PA X es (tDA X.K ω)) : PE X (.Tuple es x1 pos) (tD X.K (dTup ω)) := PE.weak (pe_tup h) fun σ H Q h => by
  obtain ⟨B, S, ρ, k, rfl, r0, h, c⟩ := h
  refine ⟨B, S, ρ, _, rfl, r0, h, fun vs xs ρ1 S1 e1 r1 q1 h1 => ⟨by rw [q1.length]; exact h1.1, fun p hp => ?_⟩⟩
  have g := Grow.both (S := S1) (o := .tup vs) r1.gr.dh hp
  exact c (.ref p) (.tuple xs) ρ1 ⟨_, _⟩ (e1.trans g.dd) (r1.grow g) (.tup (SqT.of upd_same) (q1.mono g.dd)) h1.2
/-- a list made, at once data -/
@[simp] def dLst (ω : DTA) : DTE := fun ρ k => ω ρ fun xs ρ1 => xs.length ≤ sizeLine ∧ k (.list xs) ρ1
theorem de_lst (h : PA X es (tDA X.K ω)) : PE X (.List es pos) (tD X.K (dLst ω)) := PE.weak (pe_lst h) fun σ H Q h => by
  obtain ⟨B, S, ρ, k, rfl, r0, h, c⟩ := h
  refine ⟨B, S, ρ, _, rfl, r0, h, fun vs xs ρ1 S1 e1 r1 q1 h1 => ⟨by rw [q1.length]; exact h1.1, fun p hp => ?_⟩⟩
  have g := Grow.both (S := S1) (o := .lst vs) r1.gr.dh hp
  exact c (.ref p) (.list xs) ρ1 ⟨_, _⟩ (e1.trans g.dd) (r1.grow g) (.lst upd_same (q1.mono g.dd)) h1.2
/-- a list made, a thing of its own -/
@[simp] def dLstF (ω : DTA) : DTF := fun ρ k => ω ρ fun xs ρ1 => xs.length ≤ sizeLine ∧ ∀ l, k (.lst l xs) ρ1
theorem RepS.noAds {K : PySem.W.Frag} {B S : Hs} {σ : St} {ρ : Env} (r : RepS K B S σ ρ) {p : Addr} (hp : S.h p = none) : ∀ j, p ∉ (ρ.getD j .no).ads := fun j hj => (r.at_ j).there p hj hp
theorem df_lst (h : PA X es (tDA X.K ω)) : PE X (.List es pos) (tDF X.K (dLstF ω)) := PE.weak (pe_lst h) fun σ H Q h => by
  obtain ⟨B, S, ρ, k, rfl, r0, h, c⟩ := h
  refine ⟨B, S, ρ, _, rfl, r0, h, fun vs xs ρ1 S1 e1 r1 q1 h1 => ⟨by rw [q1.length]; exact h1.1, fun p hp => ?_⟩⟩
  have g := Grow.own (S := S1) (o := .lst vs) r1.gr.dh hp
  refine c (.ref p) (.lst p xs) ρ1 ⟨_, _⟩ (e1.trans g.dd) (r1.grow g) ⟨rfl, vs, upd_same, q1.mono g.dd⟩ (fun a ha => ?_) (h1.2 p)
  have ha : a = p := by simpa [Slot.ads] using ha
  subst ha
  exact ⟨r1.noAds hp, r1.gr.dh.back hp, r1.gr.hh.back hp⟩
end
end DL
end
section
set_option Elab.async false
set_option maxRecDepth 100000
namespace DL
open PySem L2

section
variable {X : Cx} {a b c e : Expr} {es : List Expr} {α β : DTE} {ω : DTA} {τ : DTT} {pos p : Pos} {x : Str}
/-! ### calls -/
@[simp] def dCB (r : DRn) (ω : DTA) : DTE := fun ρ k => ω ρ fun xs ρ1 => r xs fun z => k z ρ1
theorem lift_cb {rn : List V → Hp → VK → Prop} {r : DRn} (l : LiftN X.K rn r) : ∀ σ H Q, tD X.K (dCB r ω) σ H Q → tCB rn (tDA X.K ω) σ H Q := by
  intro σ H Q h
  obtain ⟨B, S, ρ, k, rfl, r0, h, c⟩ := h
  refine ⟨B, S, ρ, _, rfl, r0, h, fun vs xs ρ1 S1 e1 r1 q1 h1 => ?_⟩
  exact l S1 vs xs _ Q r1.gr.dh q1 h1 fun z d T g qz hz => c z d ρ1 T (e1.trans g.dd) (r1.grow g) qz hz
theorem de_callB {id : String} {rn : List V → Hp → VK → Prop} {r : DRn} (hc : CallR X (.builtin id) rn) (l : LiftN X.K rn r) (hg : Gl X x) (hm : X.mg x = none) (hv : bootBuiltins x = some (.builtin id)) (ha : PA X (e :: es) (tDA X.K ω)) (hn : x ≠ "__name__" := by decide) (hdb : (x == ("__debug__" : Str)) = false := by decide)
    (he : starEach (e :: es) X.env = (false, eval e X.env) :: starEach es X.env := by rfl) (hpl : (backTo pos (starEach es X.env)).any (·.1) = false := by rfl) : PE X (.Call (.Name x p) (e :: es) [] pos) (tD X.K (dCB r ω)) :=
  PE.weak (pe_callB hc hg hm hv ha hn hdb he hpl) (lift_cb l)
theorem de_callTy {T : String} {rn : List V → Hp → VK → Prop} {r : DRn} (hc : CallR X (.type T) rn) (l : LiftN X.K rn r) (hg : Gl X x) (hm : X.mg x = none) (hv : bootBuiltins x = some (.type T)) (ha : PA X (e :: es) (tDA X.K ω)) (hn : x ≠ "__name__" := by decide) (hdb : (x == ("__debug__" : Str)) = false := by decide)
    (he : starEach (e :: es) X.env = (false, eval e X.env) :: starEach es X.env := by rfl) (hpl : (backTo pos (starEach es X.env)).any (·.1) = false := by rfl) : PE X (.Call (.Name x p) (e :: es) [] pos) (tD X.K (dCB r ω)) :=
  PE.weak (pe_callTy hc hg hm hv ha hn hdb he hpl) (lift_cb l)

/-- the promise of a def that changes nothing that its caller has -/
def spD (K : PySem.W.Frag) (φ : DRn) : Sp := fun vs H Q _ => ∃ S ds k, H = S.h ∧ Ex S.d S.h ∧ Reps K S.d vs ds ∧ φ ds k ∧ ∀ v d T, Grow S T → Rep K T.d v d → k d → Q v T.h
/-- a def of the text that may be called -/
def Cl (P : Program) (w : World) (K : PySem.W.Frag) (mg : Str → Option Value) (base : Heap) (nm : Str) (ps : List Str) (k : Nat) (φ : DRn) : Prop :=
  ∃ f fd, mg nm = some (.ref f) ∧ PySem.W.keepIn K (.ref f) = true ∧ Binds K fd ps [] ∧ FnOk P w K mg base CX0 k f fd ps (spD K φ)
theorem de_call {ps : List Str} {k j : Nat} {φ : DRn} (C : Cl X.prog X.w X.K X.mg X.base x ps j φ) (hr : Room k X.A) (hj : j ≤ k) (hg : Gl X x) (ha : PA X (e :: es) (tDA X.K ω)) (hdb : (x == ("__debug__" : Str)) = false := by decide)
    (he : starEach (e :: es) X.env = (false, eval e X.env) :: starEach es X.env := by rfl) (hpl : (backTo pos (starEach es X.env)).any (·.1) = false := by rfl) : PE X (.Call (.Name x p) (e :: es) [] pos) (tD X.K (dCB φ ω)) := by
  obtain ⟨f, fd, h1, h2, h3, h4⟩ := C
  refine PE.weak (pe_call (E := E0) (dvs := []) h4 (hr.mono hj) hg h1 h2 h3 .nil pass0 ha hdb he hpl) fun σ H Q h => ?_
  obtain ⟨B, S, ρ, k, rfl, r0, h, c⟩ := h
  refine ⟨B, S, ρ, _, rfl, r0, h, fun vs xs ρ1 S1 e1 r1 q1 h1 => ?_⟩
  show spD X.K φ (vs ++ []) S1.h Q E0
  rw [List.append_nil]
  exact ⟨S1, xs, _, rfl, r1.gr.dh, q1, h1, fun z d T g qz hz => c z d ρ1 T (e1.trans g.dd) (r1.grow g) qz hz⟩

/-! ### targets -/
structure DTG where
  js : List Nat
  t : PyData → Env → (Env → Prop) → Prop
structure DTGs where
  js : List Nat
  t : List PyData → Env → (Env → Prop) → Prop
def tDG (K : PySem.W.Frag) (γ : DTG) : TG := fun v σ H Q => ∃ B S d ρ k, H = S.h ∧ RepS K B S σ ρ ∧ Rep K S.d v d ∧ γ.t d ρ k ∧ ∀ σ' ρ', σ'.length = σ.length → (∀ i, i ∉ γ.js → σ'[i]? = σ[i]?) → RepS K B S σ' ρ' → k ρ' → Q σ' S.h
def tDGs (K : PySem.W.Frag) (γ : DTGs) : TGs := fun vs σ H Q => ∃ B S ds ρ k, H = S.h ∧ RepS K B S σ ρ ∧ Reps K S.d vs ds ∧ γ.t ds ρ k ∧ ∀ σ' ρ', σ'.length = σ.length → (∀ i, i ∉ γ.js → σ'[i]? = σ[i]?) → RepS K B S σ' ρ' → k ρ' → Q σ' S.h
theorem PG.weak {e : Expr} {t t' : TG} (h : PG X e t) (w : ∀ v σ H Q, t' v σ H Q → t v σ H Q) : PG X e t' := ⟨fun pins s σ H v u Q I r q => h.run pins s σ H v u Q I r (w v σ H Q q)⟩
theorem PGs.weak {e : List Expr} {t t' : TGs} (h : PGs X e t) (w : ∀ v σ H Q, t' v σ H Q → t v σ H Q) : PGs X e t' := ⟨fun pins s σ H v u Q I r q => h.run pins s σ H v u Q I r (w v σ H Q q)⟩
def gN (i : Nat) : DTG := ⟨[i], fun d ρ k => k (ρ.set i (.dat d))⟩
theorem dg_name {i : Nat} (hN : X.N.Nodup) (hi : X.N[i]? = some x) (hx : Loc X.env.scope x) (hf : X.fn x = true ∨ X.env.scope.names.lookup x = some .local := by first | exact .inl rfl | exact .inr rfl | assumption) : PG X (.Name x pos) (tDG X.K (gN i)) :=
  PG.weak (pg_name hN hi hx hf) fun v σ H Q h => by
    obtain ⟨B, S, d, ρ, k, rfl, r, q, h, c⟩ := h
    exact c _ _ (List.length_set) (fun j hj => List.getElem?_set_ne (fun z => hj (by simp [gN, z]))) (r.setDat i q) h
def gs0 : DTGs := ⟨[], fun ds ρ k => ds = [] ∧ k ρ⟩
def gsC (γ : DTG) (γs : DTGs) : DTGs := ⟨γ.js ++ γs.js, fun ds ρ k => ∃ d r, ds = d :: r ∧ γ.t d ρ fun ρ1 => γs.t r ρ1 k⟩
theorem dgs_nil : PGs X [] (tDGs X.K gs0) := PGs.weak pgs_nil fun v σ H Q h => by
  obtain ⟨B, S, d, ρ, k, rfl, r, q, ⟨rfl, h⟩, c⟩ := h
  cases q
  exact ⟨rfl, c σ ρ rfl (fun _ _ => rfl) r h⟩
theorem dgs_cons {γ : DTG} {γs : DTGs} (h1 : PG X e (tDG X.K γ)) (h2 : PGs X es (tDGs X.K γs))
    (hs : (assignEach (e :: es) X.env).map (·.2) = assign e X.env :: (assignEach es X.env).map (·.2) := by rfl) : PGs X (e :: es) (tDGs X.K (gsC γ γs)) := PGs.weak (pgs_cons h1 h2 hs) fun v σ H Q h => by
  obtain ⟨B, S, d, ρ, k, rfl, r, q, ⟨d1, dr, rfl, h⟩, c⟩ := h
  cases q with
  | cons q1 q2 =>
    refine ⟨_, _, rfl, B, S, d1, ρ, _, rfl, r, q1, h, fun σ1 ρ1 l1 e1 r1 h1 => ?_⟩
    refine ⟨B, S, dr, ρ1, _, rfl, r1, q2, h1, fun σ2 ρ2 l2 e2 r2 h2 => c σ2 ρ2 (l2.trans l1) (fun i hi => ?_) r2 h2⟩
    have hi : i ∉ γ.js ++ γs.js := hi
    rw [e2 i (fun z => hi (List.mem_append_right _ z)), e1 i (fun z => hi (List.mem_append_left _ z))]
def gT (n : Nat) (γs : DTGs) : DTG := ⟨γs.js, fun d ρ k => ∃ ds, d = .tuple ds ∧ ds.length = n ∧ γs.t ds ρ k⟩
theorem dg_tup {k n : Nat} {γs : DTGs} (hc : X.calm = true) (h : PGs X es (tDGs X.K γs)) (hn : (assignEach es X.env).length = n := by rfl) (hst : (assignEach es X.env).findIdx? (·.1) = none := by rfl) : PG X (.Tuple es k pos) (tDG X.K (gT n γs)) :=
  PG.weak (pg_tup hc h hn hst) fun v σ H Q h => by
    obtain ⟨B, S, d, ρ, k, rfl, r, q, ⟨ds, rfl, hl, h⟩, c⟩ := h
    cases q with
    | tup hs hr => exact ⟨_, _, rfl, (r.gr.dh).sqT hs, by rw [hr.length]; exact hl, B, S, ds, ρ, _, rfl, r, hr, h, c⟩

/-! ### statements -/
variable {st : Stmt} {rest sts : List Stmt} {s t u : DTS}
@[simp] def dNext : DTS := fun DD ρ => DD.nx ρ
@[simp] def dSeq (s t : DTS) : DTS := fun DD ρ => s { DD with nx := t DD } ρ
theorem ds_nil : PSs X [] (tDS X.K dNext) := PSs.weak pss_nil fun D σ H h => by
  obtain ⟨B, S, ρ, DD, rfl, r, h, T⟩ := h
  exact T.nx σ S ρ r h
theorem ds_cons (h1 : PS X st (tDS X.K s)) (h2 : PSs X rest (tDS X.K t)) : PSs X (st :: rest) (tDS X.K (dSeq s t)) := PSs.weak (pss_cons h1 h2) fun D σ H h => by
  obtain ⟨B, S, ρ, DD, rfl, r, h, T⟩ := h
  exact ⟨B, S, ρ, _, rfl, r, h, ⟨fun σ' S' ρ' r' h' => ⟨B, S', ρ', DD, rfl, r', h', T⟩, T.rt, T.bk, T.ct, T.rf⟩⟩
theorem ds_one (h1 : PS X st (tDS X.K s)) : PSs X [st] (tDS X.K s) := pss_one h1
theorem ds_pass : PS X (.Pass pos) (tDS X.K dNext) := PS.weak ps_pass fun D σ H h => by
  obtain ⟨B, S, ρ, DD, rfl, r, h, T⟩ := h
  exact T.nx σ S ρ r h
@[simp] def dBreak : DTS := fun DD ρ => DD.bk ρ
theorem ds_break : PS X (.Break pos) (tDS X.K dBreak) := PS.weak ps_break fun D σ H h => by
  obtain ⟨B, S, ρ, DD, rfl, r, h, T⟩ := h
  exact T.bk σ S ρ r h
@[simp] def dNever : DTS := fun _ _ => False
theorem ds_never : PS X st (tDS X.K dNever) := PS.weak ps_never fun D σ H h => by
  obtain ⟨B, S, ρ, DD, rfl, r, h, T⟩ := h
  exact h
@[simp] def dDrop (α : DTE) : DTS := fun DD ρ => α ρ fun _ ρ1 => DD.nx ρ1
theorem ds_expr (he : PE X e (tD X.K α)) (hs : swapsWith e none pos.line X.env = pure false := by rfl) : PS X (.Expr e pos) (tDS X.K (dDrop α)) := PS.weak (ps_expr he hs) fun D σ H h => by
  obtain ⟨B, S, ρ, DD, rfl, r, h, T⟩ := h
  exact ⟨B, S, ρ, _, rfl, r, h, fun v d ρ1 S1 e1 r1 q1 h1 => T.nx σ S1 ρ1 r1 h1⟩
@[simp] def dRet (α : DTE) : DTS := fun DD ρ => α ρ DD.rt
theorem ds_ret (he : PE X e (tD X.K α)) : PS X (.Return (some e) pos) (tDS X.K (dRet α)) := PS.weak (ps_ret he) fun D σ H h => by
  obtain ⟨B, S, ρ, DD, rfl, r, h, T⟩ := h
  exact ⟨B, S, ρ, _, rfl, r, h, fun v d ρ1 S1 e1 r1 q1 h1 => T.rt v d σ S1 ρ1 r1 q1 h1⟩
def dRetF (δ : DTF) : DTS := fun DD ρ => δ ρ fun s ρ1 => DD.rf s ρ1
/-- a new thing is handed out -/
theorem ds_retF {δ : DTF} (he : PE X e (tDF X.K δ)) : PS X (.Return (some e) pos) (tDS X.K (dRetF δ)) := PS.weak (ps_ret he) fun D σ H h => by
  obtain ⟨B, S, ρ, DD, rfl, r, h, T⟩ := h
  exact ⟨B, S, ρ, _, rfl, r, h, fun v s ρ1 S1 e1 r1 q1 f1 h1 => T.rf v s σ S1 ρ1 r1 q1 (fun a ha => (f1 a ha).2) h1⟩
@[simp] def dIfS (τ : DTT) (s t : DTS) : DTS := fun DD ρ => τ ρ fun b ρ1 => if b = true then s DD ρ1 else t DD ρ1
theorem ds_if {sa sb : List Stmt} (hc : PT X c (tDT X.K τ)) (ha : PSs X sa (tDS X.K s)) (hb : PSs X sb (tDS X.K t)) : PS X (.If c sa sb pos) (tDS X.K (dIfS τ s t)) := PS.weak (ps_if hc ha hb) fun D σ H h => by
  obtain ⟨B, S, ρ, DD, rfl, r, h, T⟩ := h
  refine ⟨B, S, ρ, _, rfl, r, h, fun z ρ1 S1 e1 r1 h1 => ?_⟩
  cases z with
  | true => exact ⟨B, S1, ρ1, DD, rfl, r1, h1, T⟩
  | false => exact ⟨B, S1, ρ1, DD, rfl, r1, h1, T⟩
@[simp] def dSet (i : Nat) (α : DTE) : DTS := fun DD ρ => α ρ fun d ρ1 => DD.nx (ρ1.set i (.dat d))
theorem lift_set {i : Nat} {te : TE} (hα : ∀ σ H Q, tD X.K α σ H Q → te σ H Q) : ∀ D σ H, tDS X.K (dSet i α) D σ H → tAsg te (gName i) D σ H := by
  intro D σ H h
  obtain ⟨B, S, ρ, DD, rfl, r, h, T⟩ := h
  exact hα _ _ _ ⟨B, S, ρ, _, rfl, r, h, fun v d ρ1 S1 e1 r1 q1 h1 => T.nx _ S1 _ (r1.setDat i q1) h1⟩
theorem ds_set {i : Nat} {pos' : Pos} (hN : X.N.Nodup) (hi : X.N[i]? = some x) (hx : Loc X.env.scope x) (he : PE X e (tD X.K α)) (hs : swapsWith e (some (.Name x pos')) pos.line X.env = pure false := by rfl) (hf : X.fn x = true ∨ X.env.scope.names.lookup x = some .local := by first | exact .inl rfl | exact .inr rfl | assumption) :
    PS X (.Assign [.Name x pos'] e pos) (tDS X.K (dSet i α)) := PS.weak (ps_set hN hi hx he hs hf) (lift_set fun _ _ _ h => h)
/-- a name gets a new thing of its own -/
@[simp] def dSetF (i : Nat) (δ : DTF) : DTS := fun DD ρ => δ ρ fun s ρ1 => DD.nx (ρ1.set i s)
theorem lift_setF {i : Nat} {δ : DTF} {te : TE} (hα : ∀ σ H Q, tDF X.K δ σ H Q → te σ H Q) : ∀ D σ H, tDS X.K (dSetF i δ) D σ H → tAsg te (gName i) D σ H := by
  intro D σ H h
  obtain ⟨B, S, ρ, DD, rfl, r, h, T⟩ := h
  exact hα _ _ _ ⟨B, S, ρ, _, rfl, r, h, fun v s ρ1 S1 e1 r1 q1 f1 h1 => T.nx _ S1 _ (r1.set i q1 f1) h1⟩
theorem ds_setF {i : Nat} {pos' : Pos} {δ : DTF} (hN : X.N.Nodup) (hi : X.N[i]? = some x) (hx : Loc X.env.scope x) (he : PE X e (tDF X.K δ)) (hs : swapsWith e (some (.Name x pos')) pos.line X.env = pure false := by rfl) (hf : X.fn x = true ∨ X.env.scope.names.lookup x = some .local := by first | exact .inl rfl | exact .inr rfl | assumption) :
    PS X (.Assign [.Name x pos'] e pos) (tDS X.K (dSetF i δ)) := PS.weak (ps_set hN hi hx he hs hf) (lift_setF fun _ _ _ h => h)
@[simp] def dAsg (α : DTE) (γ : DTG) : DTS := fun DD ρ => α ρ fun d ρ1 => γ.t d ρ1 DD.nx
theorem ds_asg {tg : Expr} {γ : DTG} (he : PE X e (tD X.K α)) (hg : PG X tg (tDG X.K γ)) (hs : swapsWithSole [tg] e pos.line X.env = pure false := by rfl) (hw : swappedStores [tg] e X.env = pure none := by rfl)
    (h1 : (assignEach [tg] X.env).map (·.2) = [assign tg X.env] := by rfl) : PS X (.Assign [tg] e pos) (tDS X.K (dAsg α γ)) := PS.weak (ps_asg he hg hs hw h1) fun D σ H h => by
  obtain ⟨B, S, ρ, DD, rfl, r, h, T⟩ := h
  exact ⟨B, S, ρ, _, rfl, r, h, fun v d ρ1 S1 e1 r1 q1 h1 => ⟨B, S1, d, ρ1, _, rfl, r1, q1, h1, fun σ' ρ' _ _ r' h' => T.nx σ' S1 ρ' r' h'⟩⟩

/-! ### loops -/
theorem Grow.unbase {B S1 S : Hs} (g : Grow B S1) (h : Grow ⟨S1.d, B.h⟩ S) : Grow B S := ⟨g.dd.trans h.dd, h.hh, h.dh, fun a h1 h2 => h.nw a h1 (g.nw a h1 h2)⟩
theorem RepS.unbase {K : PySem.W.Frag} {B S1 S : Hs} {σ : St} {ρ : Env} (g : Grow B S1) (r : RepS K ⟨S1.d, B.h⟩ S σ ρ) : RepS K B S σ ρ := ⟨g.unbase r.gr, r.len, r.at_, r.ap, r.own⟩
theorem RepS.rebase {K : PySem.W.Frag} {B S : Hs} {σ : St} {ρ : Env} (r : RepS K B S σ ρ) : RepS K ⟨S.d, B.h⟩ S σ ρ := ⟨⟨Ex.refl _, r.gr.hh, r.gr.dh, fun _ _ h => h⟩, r.len, r.at_, r.ap, r.own⟩
theorem Tie.rebase {K : PySem.W.Frag} {B S1 : Hs} {DD : DEnds} {D : Ends} (T : Tie K B DD D) (g : Grow B S1) : Tie K ⟨S1.d, B.h⟩ DD D :=
  ⟨fun σ S ρ r => T.nx σ S ρ (r.unbase g), fun v d σ S ρ r => T.rt v d σ S ρ (r.unbase g), fun σ S ρ r => T.bk σ S ρ (r.unbase g), fun σ S ρ r => T.ct σ S ρ (r.unbase g), fun v s σ S ρ r => T.rf v s σ S ρ (r.unbase g)⟩
def dWhile (τ : DTT) (s : DTS) : DTS := fun DD ρ => ∃ W : Nat → Env → Prop, (∃ m, W m ρ) ∧ ∀ m ρ, W m ρ →
  τ ρ fun b ρ1 => if b = true then s { DD with nx := fun ρ' => ∃ m', m' < m ∧ W m' ρ', ct := fun ρ' => ∃ m', m' < m ∧ W m' ρ', bk := DD.nx } ρ1 else DD.nx ρ1
theorem ds_while {body : List Stmt} (hp : PassesOwn (model X.prog X.w) X.A X.env X.xe) (hc : PT X c (tDT X.K τ)) (hb : PSs X body (tDS X.K s)) : PS X (.While c body [] pos) (tDS X.K (dWhile τ s)) := PS.weak (ps_while hp hc hb) fun D σ H h => by
  obtain ⟨B, S, ρ, DD, rfl, r, ⟨W, ⟨m, w0⟩, h⟩, T⟩ := h
  refine ⟨fun m σ H => ∃ S ρ, H = S.h ∧ RepS X.K B S σ ρ ∧ W m ρ, ⟨m, S, ρ, rfl, r, w0⟩, ?_⟩
  rintro m σ H ⟨S, ρ, rfl, r, w0⟩
  refine ⟨B, S, ρ, _, rfl, r, h m ρ w0, fun z ρ1 S1 e1 r1 h1 => ?_⟩
  cases z with
  | true =>
    refine ⟨fun σ H => ∃ S ρ m', H = S.h ∧ RepS X.K B S σ ρ ∧ m' < m ∧ W m' ρ, ?_, B, S1, ρ1, _, rfl, r1, h1, ⟨?_, T.rt, T.nx, ?_, T.rf⟩⟩
    · rintro σ' H' ⟨S', ρ', m', rfl, r', lt, w'⟩
      exact ⟨m', lt, S', ρ', rfl, r', w'⟩
    · rintro σ' S' ρ' r' ⟨m', lt, w'⟩
      exact ⟨S', ρ', m', rfl, r', lt, w'⟩
    · rintro σ' S' ρ' r' ⟨m', lt, w'⟩
      exact ⟨S', ρ', m', rfl, r', lt, w'⟩
  | false => exact T.nx _ S1 ρ1 r1 h1
/-- J walks the data xs, while what is known of data stays -/
def Walk (K : PySem.W.Frag) (d : Hp) (J : It) (xs : List PyData) : Prop := ∀ T : Hs, Ex d T.d → Ex T.d T.h → ∀ i, (xs.length ≤ i → J.stop i T.h) ∧
  ∀ x, xs[i]? = some x → J.go i T.h ∧ ∀ v H', J.yld i T.h v H' → ∃ T', T'.h = H' ∧ Grow T T' ∧ Rep K T'.d v x
def tDI (K : PySem.W.Frag) (ι : DTA) : TI := fun σ H R => ∃ B S ρ k, H = S.h ∧ RepS K B S σ ρ ∧ ι ρ k ∧ ∀ xs ρ' S' J, Ex S.d S'.d → RepS K B S' σ ρ' → Walk K S'.d J xs → k xs ρ' → R J S'.h
theorem PI.weak {tg : Expr} {t t' : TI} (h : PI X tg e t) (w : ∀ σ H R, t' σ H R → t σ H R) : PI X tg e t' := ⟨fun pins s σ H R I q => h.run pins s σ H R I (w σ H R q)⟩
def dFor (ι : DTA) (γ : DTG) (s : DTS) : DTS := fun DD ρ => ι ρ fun xs ρ1 => ∃ W : Nat → Env → Prop, W 0 ρ1 ∧
  (∀ i x ρ', xs[i]? = some x → W i ρ' → γ.t x ρ' fun ρ2 => s { DD with nx := W (i + 1), ct := W (i + 1), bk := DD.nx } ρ2) ∧ ∀ ρ', W xs.length ρ' → DD.nx ρ'
theorem ds_for {tg : Expr} {body : List Stmt} {ι : DTA} {γ : DTG} (hp : PassesOwn (model X.prog X.w) X.A X.env X.xe) (hc : X.calm = true) (hi : PI X tg e (tDI X.K ι)) (hg : PG X tg (tDG X.K γ)) (hb : PSs X body (tDS X.K s)) (hs : ∀ x, foldedSetIterable e X.env x = pure x := by intro _; rfl) : PS X (.For tg e body [] pos) (tDS X.K (dFor ι γ s)) :=
  PS.weak (ps_for hp hc hi hg hb hs) fun D σ H h => by
    obtain ⟨B, S, ρ, DD, rfl, r, h, T⟩ := h
    refine ⟨B, S, ρ, _, rfl, r, h, fun xs ρ1 S1 J e1 r1 wk h1 => ?_⟩
    obtain ⟨W, w0, step, done⟩ := h1
    have g1 := r1.gr
    refine ⟨fun i m σ H => m = xs.length - i ∧ i ≤ xs.length ∧ ∃ S ρ, H = S.h ∧ RepS X.K ⟨S1.d, B.h⟩ S σ ρ ∧ W i ρ, ⟨xs.length, by simp, Nat.zero_le _, S1, ρ1, rfl, r1.rebase, w0⟩, ?_⟩
    rintro i m σ H ⟨rfl, hi, S2, ρ2, rfl, r2, w2⟩
    have wk2 := wk S2 r2.gr.dd r2.gr.dh i
    by_cases hlt : i < xs.length
    · obtain ⟨go, yd⟩ := wk2.2 xs[i] (by simp [hlt])
      refine .inr ⟨go, fun σ H => ∃ S ρ, H = S.h ∧ RepS X.K ⟨S1.d, B.h⟩ S σ ρ ∧ W (i + 1) ρ, ?_, fun v H' y => ?_⟩
      · rintro σ' H' ⟨S', ρ', rfl, r', w'⟩
        exact ⟨xs.length - (i + 1), by omega, rfl, hlt, S', ρ', rfl, r', w'⟩
      · obtain ⟨T', rfl, g, q⟩ := yd v H' y
        refine ⟨_, T', xs[i], ρ2, _, rfl, r2.grow g, q, step i xs[i] ρ2 (by simp [hlt]) w2, fun σ3 ρ3 _ _ r3 h3 => ?_⟩
        refine ⟨_, T', ρ3, _, rfl, r3, h3, ?_⟩
        exact ⟨fun σ' S' ρ' r' w' => ⟨S', ρ', rfl, r', w'⟩, (T.rebase g1).rt, (T.rebase g1).nx, fun σ' S' ρ' r' w' => ⟨S', ρ', rfl, r', w'⟩, (T.rebase g1).rf⟩
    · have e : i = xs.length := by omega
      subst e
      exact .inl ⟨wk2.1 (Nat.le_refl _), T.nx _ _ _ (r2.unbase g1) (done ρ2 w2)⟩
/-- what is walked: data that are a tuple, a list, a range -/
@[simp] def iT (α : DTE) : DTA := fun ρ k => α ρ fun d ρ1 => ∃ xs, d = .tuple xs ∧ k xs ρ1
@[simp] def iL (α : DTE) : DTA := fun ρ k => α ρ fun d ρ1 => ∃ xs, d = .list xs ∧ k xs ρ1
theorem walk_tup {K : PySem.W.Frag} {d : Hp} {p : Addr} {vs : List V} {xs : List PyData} (hs : SqT K d p vs) (hr : Reps K d vs xs) : Walk K d (Itt K p) xs := by
  intro T h1 h2 i
  have hs' : SqT K T.h p vs := h2.sqT (h1.sqT hs)
  refine ⟨fun h => ⟨vs, hs', by rw [hr.length]; exact h⟩, fun x hx => ?_⟩
  obtain ⟨v, hv, q⟩ := hr.get hx
  refine ⟨⟨vs, v, hs', hv⟩, fun u H' y => ?_⟩
  obtain ⟨rfl, y⟩ := y
  have e := y vs hs'
  rw [hv] at e
  cases e
  exact ⟨T, rfl, Grow.refl h2, q.mono h1⟩
theorem walk_lst {K : PySem.W.Frag} {d : Hp} {p : Addr} {vs : List V} {xs : List PyData} (hs : SqL K d p vs) (hr : Reps K d vs xs) : Walk K d (Itl K p) xs := by
  intro T h1 h2 i
  have hs' : SqL K T.h p vs := h2.sqL (h1.sqL hs)
  refine ⟨fun h => ⟨vs, hs', by rw [hr.length]; exact h⟩, fun x hx => ?_⟩
  obtain ⟨v, hv, q⟩ := hr.get hx
  refine ⟨⟨vs, v, hs', hv⟩, fun u H' y => ?_⟩
  obtain ⟨rfl, y⟩ := y
  have e := y vs hs'
  rw [hv] at e
  cases e
  exact ⟨T, rfl, Grow.refl h2, q.mono h1⟩
def intsD (lo : Int) (n : Nat) : List PyData := (List.range n).map fun i => .int (lo + (i : Nat))
theorem walk_rng {K : PySem.W.Frag} {d : Hp} (lo : Int) (n : Nat) : Walk K d (Itr lo n) (intsD lo n) := by
  intro T h1 h2 i
  refine ⟨fun h => by simpa [intsD, Itr] using h, fun x hx => ?_⟩
  simp only [intsD, List.getElem?_map, Option.map_eq_some_iff] at hx
  obtain ⟨j, hj, rfl⟩ := hx
  obtain ⟨hl, hj⟩ := List.getElem?_eq_some_iff.mp hj
  rw [List.getElem_range] at hj
  subst hj
  refine ⟨by simpa [Itr] using hl, fun v H' y => ?_⟩
  obtain ⟨rfl, rfl⟩ := y
  exact ⟨T, rfl, Grow.refl h2, .int _⟩
theorem di_tup {tg : Expr} (h : PE X e (tD X.K α)) : PI X tg e (tDI X.K (iT α)) := PI.weak (pi_tup h) fun σ H R h => by
  obtain ⟨B, S, ρ, k, rfl, r, h, c⟩ := h
  refine ⟨B, S, ρ, _, rfl, r, h, fun v d ρ1 S1 e1 r1 q1 h1 => ?_⟩
  obtain ⟨xs, rfl, h1⟩ := h1
  cases q1 with
  | tup hs hr => exact ⟨_, rfl, ⟨_, r1.gr.dh.sqT hs⟩, c xs ρ1 S1 _ e1 r1 (walk_tup hs hr) h1⟩
theorem di_lst {tg : Expr} (h : PE X e (tD X.K α)) : PI X tg e (tDI X.K (iL α)) := PI.weak (pi_list h) fun σ H R h => by
  obtain ⟨B, S, ρ, k, rfl, r, h, c⟩ := h
  refine ⟨B, S, ρ, _, rfl, r, h, fun v d ρ1 S1 e1 r1 q1 h1 => ?_⟩
  obtain ⟨xs, rfl, h1⟩ := h1
  cases q1 with
  | lst hs hr => exact ⟨_, rfl, ⟨_, SqL.of (r1.gr.dh _ _ hs)⟩, c xs ρ1 S1 _ e1 r1 (walk_lst (SqL.of hs) hr) h1⟩
@[simp] def iR1 (ω : DTA) : DTA := fun ρ k => ω ρ fun ds ρ1 => ∃ n : Nat, ds = [.int n] ∧ n ≤ 1000000 ∧ k (intsD 0 n) ρ1
@[simp] def iR2 (ω : DTA) : DTA := fun ρ k => ω ρ fun ds ρ1 => ∃ lo hi : Int, ds = [.int lo, .int hi] ∧ (-1000000 ≤ lo ∧ lo ≤ 1000000 ∧ -1000000 ≤ hi ∧ hi ≤ 1000000) ∧ k (intsD lo (hi - lo).toNat) ρ1
theorem di_range1 {tg : Expr} (hg : Gl X "range") (hm : X.mg "range" = none) (ha : PA X [a] (tDA X.K ω)) (hs : starEach [a] X.env = [(false, eval a X.env)] := by rfl) : PI X tg (.Call (.Name "range" p) [a] [] pos) (tDI X.K (iR1 ω)) :=
  PI.weak (pi_range1 hg hm ha hs) fun σ H R h => by
    obtain ⟨B, S, ρ, k, rfl, r, h, c⟩ := h
    refine ⟨B, S, ρ, _, rfl, r, h, fun vs xs ρ1 S1 e1 r1 q1 h1 => ?_⟩
    obtain ⟨n, rfl, hn, h1⟩ := h1
    cases q1 with
    | cons q qs =>
      cases q
      cases qs
      refine ⟨n, rfl, by omega, by omega, ?_⟩
      rw [Int.toNat_natCast]
      exact c _ ρ1 S1 _ e1 r1 (walk_rng 0 n) h1
theorem di_range2 {tg : Expr} (hg : Gl X "range") (hm : X.mg "range" = none) (ha : PA X [a, b] (tDA X.K ω)) (hs : starEach [a, b] X.env = [(false, eval a X.env), (false, eval b X.env)] := by rfl) (hs2 : starEach [b] X.env = [(false, eval b X.env)] := by rfl) : PI X tg (.Call (.Name "range" p) [a, b] [] pos) (tDI X.K (iR2 ω)) :=
  PI.weak (pi_range2 hg hm ha hs hs2) fun σ H R h => by
    obtain ⟨B, S, ρ, k, rfl, r, h, c⟩ := h
    refine ⟨B, S, ρ, _, rfl, r, h, fun vs xs ρ1 S1 e1 r1 q1 h1 => ?_⟩
    obtain ⟨lo, hi, rfl, hn, h1⟩ := h1
    cases q1 with
    | cons q qs =>
      cases q
      cases qs with
      | cons q qs =>
        cases q
        cases qs
        exact ⟨lo, hi, rfl, ⟨by omega, by omega, by omega, by omega⟩, c _ ρ1 S1 _ e1 r1 (walk_rng lo _) h1⟩
end
end DL
end
section
set_option Elab.async false
set_option maxRecDepth 100000
namespace DL
open PySem L2

/-! ### comprehensions -/
def wipeD (ρ : Env) : List Nat → Env
  | [] => ρ
  | v :: vs => (wipeD ρ vs).set v .no
def mergeD (ρ1 ρ : Env) : List Nat → Env
  | [] => ρ
  | v :: vs => (mergeD ρ1 ρ vs).set v (ρ1.getD v .no)
theorem wipeD_length (ρ : Env) : ∀ vs, (wipeD ρ vs).length = ρ.length
  | [] => rfl
  | v :: vs => by rw [wipeD, List.length_set, wipeD_length ρ vs]
theorem mergeD_length (ρ1 ρ : Env) : ∀ vs, (mergeD ρ1 ρ vs).length = ρ.length
  | [] => rfl
  | v :: vs => by rw [mergeD, List.length_set, mergeD_length ρ1 ρ vs]
theorem wipeD_out {ρ : Env} {i : Nat} : ∀ {vs : List Nat}, i ∉ vs → (wipeD ρ vs)[i]? = ρ[i]?
  | [], _ => rfl
  | v :: vs, h => by
    have h1 : v ≠ i := fun e => h (by rw [e]; exact List.mem_cons_self)
    rw [wipeD, List.getElem?_set_ne h1]
    exact wipeD_out fun m => h (List.mem_cons_of_mem _ m)
theorem wipeD_in {ρ : Env} {i : Nat} : ∀ {vs : List Nat}, i ∈ vs → (wipeD ρ vs).getD i .no = .no
  | v :: vs, h => by
    by_cases e : i = v
    · subst e
      by_cases hl : i < (wipeD ρ vs).length
      · rw [wipeD, getD_set_self hl]
      · rw [wipeD, set_ge (by omega), List.getD_eq_getElem?_getD, List.getElem?_eq_none (by omega)]
        rfl
    · rw [wipeD, getD_set_ne e]
      exact wipeD_in (by simpa [e] using h)
theorem mergeD_out {ρ1 ρ : Env} {i : Nat} : ∀ {vs : List Nat}, i ∉ vs → (mergeD ρ1 ρ vs)[i]? = ρ[i]?
  | [], _ => rfl
  | v :: vs, h => by
    have h1 : v ≠ i := fun e => h (by rw [e]; exact List.mem_cons_self)
    rw [mergeD, List.getElem?_set_ne h1]
    exact mergeD_out fun m => h (List.mem_cons_of_mem _ m)
theorem mergeD_in {ρ1 ρ : Env} {i : Nat} (hl : i < ρ.length) : ∀ {vs : List Nat}, i ∈ vs → (mergeD ρ1 ρ vs).getD i .no = ρ1.getD i .no
  | v :: vs, h => by
    by_cases e : i = v
    · subst e
      rw [mergeD, getD_set_self (by rw [mergeD_length]; exact hl)]
    · rw [mergeD, getD_set_ne e]
      exact mergeD_in hl (by simpa [e] using h)
theorem merge_wipe (ρ : Env) (vs : List Nat) : mergeD ρ (wipeD ρ vs) vs = ρ := by
  apply List.ext_getElem?
  intro i
  by_cases h : i ∈ vs
  · by_cases hl : i < ρ.length
    · have h1 := mergeD_in (ρ1 := ρ) (ρ := wipeD ρ vs) (by rw [wipeD_length]; exact hl) h
      have hl2 : i < (mergeD ρ (wipeD ρ vs) vs).length := by rw [mergeD_length, wipeD_length]; exact hl
      rw [List.getD_eq_getElem?_getD, List.getD_eq_getElem?_getD, List.getElem?_eq_getElem hl2, List.getElem?_eq_getElem hl] at h1
      rw [List.getElem?_eq_getElem hl2, List.getElem?_eq_getElem hl]
      exact congrArg some h1
    · rw [List.getElem?_eq_none (by rw [mergeD_length, wipeD_length]; omega), List.getElem?_eq_none (by omega)]
  · rw [mergeD_out h, wipeD_out h]
section
variable {K : PySem.W.Frag} {B S T : Hs} {σ : St} {ρ ρ1 : Env}
theorem RepS.setNone (r : RepS K B S σ ρ) (i : Nat) : RepS K B S (σ.set i none) (ρ.set i .no) := by
  by_cases hi : i < ρ.length
  · refine r.change (i := i) r.gr (Ex.refl _) (by rw [List.length_set, List.length_set, r.len]) (fun j e => List.getElem?_set_ne (fun z => e z.symm)) (fun j e => getD_set_ne e) ?_ (fun a ha => ?_) fun j e a ha => ⟨fun u hu => hu, (r.own j a ha).1⟩
    · rw [getD_set_self hi]
      trivial
    · rw [getD_set_self hi] at ha
      cases ha
  · rw [set_ge (by rw [r.len]; omega), set_ge (by omega)]
    exact r
theorem RepS.wipe (r : RepS K B S σ ρ) : ∀ vs, RepS K B S (L2.wipe σ vs) (wipeD ρ vs)
  | [] => r
  | v :: vs => (RepS.wipe r vs).setNone v
/-- back in the def: its own names vs hold what they held -/
theorem RepS.merge {vs : List Nat} (r : RepS K B T (L2.wipe σ vs) ρ) (h : ∀ i ∈ vs, SlotAt K T (σ[i]?).join (ρ1.getD i .no) ∧ (ρ1.getD i .no).ads = []) : RepS K B T σ (mergeD ρ1 ρ vs) := by
  have hl : σ.length = ρ.length := by rw [← r.len, wipe_length]
  have key : ∀ i, (i ∈ vs ∧ (mergeD ρ1 ρ vs).getD i .no = ρ1.getD i .no) ∨ ((mergeD ρ1 ρ vs).getD i .no = ρ.getD i .no ∧ (i ∈ vs → ρ.length ≤ i)) := fun i => by
    by_cases hi : i ∈ vs
    · by_cases hl : i < ρ.length
      · exact .inl ⟨hi, mergeD_in hl hi⟩
      · refine .inr ⟨?_, fun _ => by omega⟩
        rw [List.getD_eq_getElem?_getD, List.getElem?_eq_none (by rw [mergeD_length]; omega), List.getD_eq_getElem?_getD, List.getElem?_eq_none (by omega)]
    · refine .inr ⟨?_, fun z => absurd z hi⟩
      rw [List.getD_eq_getElem?_getD, mergeD_out hi, ← List.getD_eq_getElem?_getD]
  refine ⟨r.gr, by rw [mergeD_length, hl], fun i => ?_, fun i j a ha hb => ?_, fun i a ha => ?_⟩
  · rcases key i with ⟨hi, e⟩ | ⟨e, hi⟩
    · rw [e]
      exact (h i hi).1
    · rw [e]
      by_cases hv : i ∈ vs
      · have hz := hi hv
        rw [List.getD_eq_getElem?_getD, List.getElem?_eq_none hz]
        trivial
      · have q := r.at_ i
        rwa [wipe_out hv] at q
  · rcases key i with ⟨hi, e⟩ | ⟨e, _⟩
    · rw [e, (h i hi).2] at ha
      cases ha
    · rcases key j with ⟨hj, e'⟩ | ⟨e', _⟩
      · rw [e', (h j hj).2] at hb
        cases hb
      · rw [e] at ha
        rw [e'] at hb
        exact r.ap i j a ha hb
  · rcases key i with ⟨hi, e⟩ | ⟨e, _⟩
    · rw [e, (h i hi).2] at ha
      cases ha
    · rw [e] at ha
      exact r.own i a ha
theorem wipe_same {σ σ' : St} {js vs : List Nat} (hj : ∀ j ∈ js, j ∈ vs) (h : ∀ i, i ∉ js → σ'[i]? = (L2.wipe σ vs)[i]?) (hl : σ'.length = σ.length) : L2.wipe σ' vs = L2.wipe σ vs := by
  apply List.ext_getElem?
  intro i
  by_cases hi : i ∈ vs
  · by_cases hlt : i < σ.length
    · have a : ∀ s : St, s.length = σ.length → (L2.wipe s vs)[i]? = some none := fun s hs => by
        have hx : i < (L2.wipe s vs).length := by rw [wipe_length, hs]; exact hlt
        rw [List.getElem?_eq_getElem hx]
        cases q : (L2.wipe s vs)[i] with
        | none => rfl
        | some x => exact absurd hi (wipe_some (x := x) (vs := vs) (σ := s) (by rw [List.getElem?_eq_getElem hx, q])).2
      rw [a σ' hl, a σ rfl]
    · rw [List.getElem?_eq_none (by rw [wipe_length]; omega), List.getElem?_eq_none (by rw [wipe_length]; omega)]
  · rw [wipe_out hi, h i (fun z => hi (hj i z))]
end

section
variable {X : Cx}
/-- the list that a comprehension makes; W: by the turn, what is made so far, and the names -/
def dLc (ι : DTA) (γ : DTG) (τ : DTT) (ε : DTE) (vs : List Nat) : DTF := fun ρ k => ι ρ fun xs ρ1 => xs.length ≤ 1000000 ∧ (∀ i ∈ vs, (ρ1.getD i .no).ads = []) ∧ (∀ j ∈ γ.js, j ∈ vs) ∧ ∃ W : Nat → List PyData → Env → Prop, W 0 [] (wipeD ρ1 vs) ∧
  (∀ i x acc ρ', xs[i]? = some x → W i acc ρ' → γ.t x ρ' fun ρ2 => τ ρ2 fun b ρ3 => if b = true then ε ρ3 fun z ρ4 => W (i + 1) (acc ++ [z]) (wipeD ρ4 vs) else W (i + 1) acc (wipeD ρ3 vs)) ∧
  ∀ acc ρ', W xs.length acc ρ' → ∀ l, k (.lst l acc) (mergeD ρ1 ρ' vs)
theorem upd_base {B S : Hs} {D : Addr} {o : HO} (g : Grow B S) (hd : S.d D = none) (hb : B.h D = none) (hD : S.h D = some o) : Grow ⟨S.d, upd B.h D o⟩ S := by
  refine ⟨Ex.refl _, fun a u e => ?_, g.dh, fun a h1 h2 => h2⟩
  by_cases q : a = D
  · subst q
    change upd B.h a o a = some u at e
    rw [upd_same] at e
    rw [hD, e]
  · change upd B.h D o a = some u at e
    rw [upd_ne q] at e
    exact g.hh a u e
theorem lift_lc {ι : DTA} {γ : DTG} {τ : DTT} {ε : DTE} {vs : List Nat} : ∀ σ H Q, tDF X.K (dLc ι γ τ ε vs) σ H Q → tLc (tDI X.K ι) (tDG X.K γ) (tDT X.K τ) (tD X.K ε) vs σ H Q := by
  intro σ H Q h
  obtain ⟨B, S, ρ, k, rfl, r, h, c⟩ := h
  refine ⟨B, S, ρ, _, rfl, r, h, fun xs ρ1 S1 J e1 r1 wk h1 D hD => ?_⟩
  obtain ⟨hz, hads, hjs, W, w0, step, done⟩ := h1
  have hd1 : S1.d D = none := r1.gr.dh.back hD
  have hb1 : B.h D = none := r1.gr.hh.back hD
  have noD : ∀ j, D ∉ (ρ1.getD j .no).ads := r1.noAds hD
  -- the state between two turns: over a base that knows the list so far
  let St : Nat → Hp → List PyData → Env → List V → Hs → Prop := fun i H acc ρ' ws T =>
    H = T.h ∧ T.h D = some (.lst ws) ∧ Reps X.K T.d ws acc ∧ acc.length ≤ i ∧ RepS X.K ⟨S1.d, upd B.h D (.lst ws)⟩ T (L2.wipe σ vs) ρ' ∧ T.d D = none ∧ W i acc ρ'
  -- over another such base
  have turn : ∀ {ws ws' : List V} {T : Hs} {σ' : L2.St} {ρ' : Env}, RepS X.K ⟨S1.d, upd B.h D (.lst ws)⟩ T σ' ρ' → RepS X.K ⟨S1.d, upd B.h D (.lst ws')⟩ ⟨T.d, upd T.h D (.lst ws')⟩ σ' ρ' := by
    intro ws ws' T σ' ρ' r'
    have td : T.d D = none := r'.gr.nw D (by show upd B.h D (.lst ws) D ≠ none; rw [upd_same]; exact nofun) hd1
    have nd : ∀ j, D ∉ (ρ'.getD j .no).ads := fun j hj => by
      have := (r'.own j D hj).2
      change upd B.h D (.lst ws) D = none at this
      rw [upd_same] at this
      cases this
    refine ⟨⟨r'.gr.dd, fun a u e => ?_, r'.gr.dh.mut td, fun a h1 h2 => ?_⟩, r'.len, fun j => (r'.at_ j).frame (Ex.refl _) fun a ha u hu => ?_, r'.ap, fun j a ha => ⟨(r'.own j a ha).1, ?_⟩⟩
    · change upd B.h D (.lst ws') a = some u at e
      change upd T.h D (.lst ws') a = some u
      by_cases q : a = D
      · subst q
        rw [upd_same] at e ⊢
        exact e
      · rw [upd_ne q] at e ⊢
        exact r'.gr.hh a u (by show upd B.h D (.lst ws) a = some u; rw [upd_ne q]; exact e)
    · by_cases q : a = D
      · rw [q]
        exact td
      · refine r'.gr.nw a ?_ h2
        change upd B.h D (.lst ws') a ≠ none at h1
        rw [upd_ne q] at h1
        show upd B.h D (.lst ws) a ≠ none
        rw [upd_ne q]
        exact h1
    · have q : a ≠ D := fun z => nd j (z ▸ ha)
      change upd T.h D (.lst ws') a = some u
      rw [upd_ne q]
      exact hu
    · have q : a ≠ D := fun z => nd j (z ▸ ha)
      have := (r'.own j a ha).2
      change upd B.h D (.lst ws) a = none at this
      rw [upd_ne q] at this
      show upd B.h D (.lst ws') a = none
      rw [upd_ne q]
      exact this
  have r2 : RepS X.K B ⟨S1.d, upd S1.h D (.lst [])⟩ σ ρ1 := r1.grow (Grow.own r1.gr.dh hD)
  have r3 : RepS X.K ⟨S1.d, upd B.h D (.lst [])⟩ ⟨S1.d, upd S1.h D (.lst [])⟩ (L2.wipe σ vs) (wipeD ρ1 vs) := by
    have q := r2.wipe vs
    have nD : ∀ j, D ∉ ((wipeD ρ1 vs).getD j .no).ads := fun j hj => by
      by_cases hv : j ∈ vs
      · rw [wipeD_in hv] at hj
        cases hj
      · rw [List.getD_eq_getElem?_getD, wipeD_out hv, ← List.getD_eq_getElem?_getD] at hj
        exact noD j hj
    refine ⟨upd_base r2.gr hd1 hb1 upd_same, q.len, q.at_, q.ap, fun j a ha => ⟨(q.own j a ha).1, ?_⟩⟩
    have ne : a ≠ D := fun z => nD j (z ▸ ha)
    show upd B.h D (.lst []) a = none
    rw [upd_ne ne]
    exact (q.own j a ha).2
  refine ⟨fun i m H => m = xs.length - i ∧ i ≤ xs.length ∧ ∃ acc ρ' ws T, St i H acc ρ' ws T, ⟨xs.length, by simp, Nat.zero_le _, [], _, [], _, rfl, upd_same, .nil, Nat.zero_le _, r3, hd1, w0⟩, ?_⟩
  rintro i m H ⟨rfl, hi, acc, ρ', ws, T, rfl, hT, hacc, hal, rT, hTd, w⟩
  have wk2 := wk T rT.gr.dd rT.gr.dh i
  by_cases hlt : i < xs.length
  · obtain ⟨go, yd⟩ := wk2.2 xs[i] (by simp [hlt])
    refine .inr ⟨go, fun H => ∃ acc ρ' ws T, St (i + 1) H acc ρ' ws T, fun H' n' => ⟨xs.length - (i + 1), by omega, rfl, hlt, n'⟩, fun v H' y => ?_⟩
    obtain ⟨T', rfl, g, q⟩ := yd v H' y
    refine ⟨_, T', xs[i], ρ', _, rfl, rT.grow g, q, step i xs[i] acc ρ' (by simp [hlt]) w, fun σ3 ρ3 hl3 hs3 r4 h4 => ?_⟩
    have ew : L2.wipe σ3 vs = L2.wipe σ vs := wipe_same hjs hs3 (by rw [hl3, wipe_length])
    refine ⟨ew, _, T', ρ3, _, rfl, r4, h4, fun b ρ5 S5 e5 r5 h5 => ?_⟩
    have hD5 : S5.h D = some (.lst ws) := r5.gr.hh D _ (by show upd B.h D (.lst ws) D = _; exact upd_same)
    have hd5 : S5.d D = none := r5.gr.nw D (by show upd B.h D (.lst ws) D ≠ none; rw [upd_same]; exact nofun) hd1
    have ha5 : Reps X.K S5.d ws acc := hacc.mono (g.dd.trans e5)
    cases b with
    | false =>
      refine ⟨acc, wipeD ρ5 vs, ws, S5, rfl, hD5, ha5, by omega, ?_, hd5, h5⟩
      have := r5.wipe vs
      rwa [ew] at this
    | true =>
      refine ⟨_, S5, ρ5, _, rfl, r5, h5, fun u z ρ6 S6 e6 r6 q6 h6 => ?_⟩
      have hD6 : S6.h D = some (.lst ws) := r6.gr.hh D _ (by show upd B.h D (.lst ws) D = _; exact upd_same)
      have hd6 : S6.d D = none := r6.gr.nw D (by show upd B.h D (.lst ws) D ≠ none; rw [upd_same]; exact nofun) hd1
      have hws : ws.length = acc.length := hacc.length
      refine ⟨ws, hD6, by rw [sizeLine_eq]; omega, acc ++ [z], wipeD ρ6 vs, ws ++ [u], ⟨S6.d, upd S6.h D (.lst (ws ++ [u]))⟩, rfl, upd_same, (ha5.mono e6).append (.cons q6 .nil), by rw [List.length_append]; simp; omega, ?_, hd6, h6⟩
      have := turn (ws' := ws ++ [u]) (r6.wipe vs)
      rwa [ew] at this
  · have e : i = xs.length := by omega
    subst e
    refine .inl ⟨wk2.1 (Nat.le_refl _), ?_⟩
    have rT' : RepS X.K B T (L2.wipe σ vs) ρ' := by
      refine ⟨⟨r1.gr.dd.trans rT.gr.dd, fun a u e => ?_, rT.gr.dh, fun a h1 h2 => ?_⟩, rT.len, rT.at_, rT.ap, fun j a ha => ⟨(rT.own j a ha).1, ?_⟩⟩
      · have q : a ≠ D := fun z => by rw [z, hb1] at e; cases e
        exact rT.gr.hh a u (by show upd B.h D (.lst ws) a = some u; rw [upd_ne q]; exact e)
      · have q : a ≠ D := fun z => h1 (z ▸ hb1)
        exact rT.gr.nw a (by show upd B.h D (.lst ws) a ≠ none; rw [upd_ne q]; exact h1) (r1.gr.nw a h1 h2)
      · have := (rT.own j a ha).2
        change upd B.h D (.lst ws) a = none at this
        by_cases q : a = D
        · rw [q, upd_same] at this
          cases this
        · rwa [upd_ne q] at this
    have rf : RepS X.K B T σ (mergeD ρ1 ρ' vs) := rT'.merge fun i hv => ⟨(r1.at_ i).frame rT.gr.dd (fun a ha => by
      rw [hads i hv] at ha
      cases ha), hads i hv⟩
    refine c (.ref D) (.lst D acc) (mergeD ρ1 ρ' vs) T (e1.trans rT.gr.dd) rf ⟨rfl, ws, hT, hacc⟩ (fun a ha => ?_) (done acc ρ' w D)
    have ha : a = D := by simpa [Slot.ads] using ha
    subst ha
    refine ⟨fun j hj => ?_, hTd, hb1⟩
    by_cases hv : j ∈ vs
    · have : ((mergeD ρ1 ρ' vs).getD j .no).ads = [] := by
        by_cases hl : j < ρ'.length
        · rw [mergeD_in hl hv]
          exact hads j hv
        · rw [List.getD_eq_getElem?_getD, List.getElem?_eq_none (by rw [mergeD_length]; omega)]
          rfl
      rw [this] at hj
      cases hj
    · rw [List.getD_eq_getElem?_getD, mergeD_out hv, ← List.getD_eq_getElem?_getD] at hj
      have := (rT.own j a hj).2
      change upd B.h a (.lst ws) a = none at this
      rw [upd_same] at this
      cases this
end
end DL
end
section
set_option Elab.async false
set_option maxRecDepth 100000
namespace DL
open PySem L2

/-! ### comprehensions as expressions and statements -/
@[simp] def Slot.pub : Slot → Option (Addr × PyData)
  | .lst l ds => some (l, .list ds)
  | .dT l es => some (l, .dict es)
  | _ => none
/-- a thing just made, at once data -/
def dPub (δ : DTF) : DTE := fun ρ k => δ ρ fun s ρ1 => ∃ p, s.pub = some p ∧ k p.2 ρ1
section
variable {X : Cx} {pos : Pos}
theorem lift_pub {te : TE} {δ : DTF} (h : ∀ σ H Q, tDF X.K δ σ H Q → te σ H Q) : ∀ σ H Q, tD X.K (dPub δ) σ H Q → te σ H Q := by
  intro σ H Q hh
  obtain ⟨B, S, ρ, k, rfl, r, hd, c⟩ := hh
  refine h _ _ _ ⟨B, S, ρ, _, rfl, r, hd, fun v s ρ1 S1 e1 r1 q1 f1 h1 => ?_⟩
  obtain ⟨p, hp, hk⟩ := h1
  cases s with
  | lst l ds =>
    cases hp
    obtain ⟨rfl, vs, q2, q3⟩ : v = .ref l ∧ _ := ⟨Option.some.inj q1.1, q1.2⟩
    obtain ⟨f1, f2, f3⟩ := f1 l (by simp [Slot.ads])
    have dd : Ex S1.d (upd S1.d l (.lst vs)) := Ex.new f2
    exact c (.ref l) (.list ds) ρ1 ⟨upd S1.d l (.lst vs), S1.h⟩ (e1.trans dd) (r1.publish q2 f2 f3 f1) (.lst upd_same (q3.mono dd)) hk
  | dT l es =>
    cases hp
    obtain ⟨rfl, vs, q2, q3⟩ : v = .ref l ∧ _ := ⟨Option.some.inj q1.1, q1.2⟩
    obtain ⟨f1, f2, f3⟩ := f1 l (by simp [Slot.ads])
    have dd : Ex S1.d (upd S1.d l (.dT vs)) := Ex.new f2
    exact c (.ref l) (.dict es) ρ1 ⟨upd S1.d l (.dT vs), S1.h⟩ (e1.trans dd) (r1.publish q2 f2 f3 f1) (.dT upd_same (q3.mono dd)) hk
  | no => cases hp
  | dat d => cases hp
  | dK l ks => cases hp
  | crs C p' l w h' g row => cases hp
/-- an own thing that is handed on as data: it is the def's own no longer -/
def dGive (i : Nat) : DTE := fun ρ k => ∃ s p, ρ[i]? = some s ∧ s.pub = some p ∧ k p.2 (ρ.set i .no)
theorem dgive (i : Nat) {x : Str} {pos : Pos} (hN : X.N[i]? = some x := by rfl) (hv : Vis X.env.scope x := by first | exact Or.inl rfl | exact Or.inr (Or.inl rfl) | exact Or.inr (Or.inr rfl)) (hd : (x == ("__debug__" : Str)) = false := by decide)
    (hcd : (x == ("__classdict__" : Str)) = false := by decide) : PE X (.Name x pos) (tD X.K (dGive i)) := PE.weak (pe_var hN hv hd hcd) fun σ H Q h => by
  obtain ⟨B, S, ρ, k, rfl, r, ⟨s, p, e, hp, hk⟩, c⟩ := h
  have hg := getD_of e
  have hi : i < ρ.length := (List.getElem?_eq_some_iff.mp e).1
  have hs := r.slot e
  have key : ∀ (l : Addr) (o : HO) (d : PyData), s.ads = [l] → (σ[i]?).join = some (.ref l) → S.h l = some o → (∀ d', Ex S.d d' → d' l = some o → Rep X.K d' (.ref l) d) → k d (ρ.set i .no) → tVar i σ S.h Q := by
    intro l o d ha hv ho hr hk
    have hown := r.own i l (by rw [hg, ha]; simp)
    have dd : Ex S.d (upd S.d l o) := Ex.new hown.1
    have nl : ∀ j, l ∉ ((ρ.set i .no).getD j .no).ads := fun j hj => by
      by_cases e' : j = i
      · subst e'
        rw [getD_set_self hi] at hj
        cases hj
      · rw [getD_set_ne e'] at hj
        exact e' (r.ap j i l hj (by rw [hg, ha]; simp))
    exact ⟨.ref l, join_some hv, c _ d _ ⟨upd S.d l o, S.h⟩ dd ((r.forget i).publish ho hown.1 hown.2 nl) (hr _ dd upd_same) hk⟩
  cases s with
  | lst l ds =>
    cases hp
    obtain ⟨hv, vs, q2, q3⟩ := hs
    exact key l _ _ rfl hv q2 (fun d' e' h' => .lst h' (q3.mono e')) hk
  | dT l es =>
    cases hp
    obtain ⟨hv, vs, q2, q3⟩ := hs
    exact key l _ _ rfl hv q2 (fun d' e' h' => .dT h' (q3.mono e')) hk
  | no => cases hp
  | dat d => cases hp
  | dK l ks => cases hp
  | crs C p' l w h' g row => cases hp
@[simp] def dYes : DTT := fun ρ k => k true ρ
theorem dts_nil : PTs X [] (tDT X.K dYes) := PTs.weak pts_nil fun σ H Q h => by
  obtain ⟨B, S, ρ, k, rfl, r, h, c⟩ := h
  exact c true ρ S (Ex.refl _) r h
theorem dts_one {c : Expr} {τ : DTT} (h : PT X c (tDT X.K τ)) : PTs X [c] (tDT X.K τ) := pts_one h
section
variable {elt tg iter : Expr} {ifs : List Expr} {scope : Scope} {own : List (Str × Nat)} {ι : DTA} {γ : DTG} {τ : DTT} {ε : DTE}
theorem df_lc (hc : X.calm = true) (hN : X.N.Nodup) (hi : PI X tg iter (tDI X.K ι)) (ok : BlkOk X.N X.env.scope scope own)
    (hg : ∀ (s : Shared) (H : Hp) (C : Addr) (cl : List (Str × Addr)) (fp : List Addr), PG (X.blk s H scope (compEnvC scope cl C X.env) fp) tg (tDG X.K γ)) (ht : ∀ (s : Shared) (H : Hp) (C : Addr) (cl : List (Str × Addr)) (fp : List Addr), PTs (X.blk s H scope (compEnvC scope cl C X.env) fp) ifs (tDT X.K τ))
    (he : ∀ (s : Shared) (H : Hp) (C : Addr) (cl : List (Str × Addr)) (fp : List Addr), PE (X.blk s H scope (compEnvC scope cl C X.env) fp) elt (tD X.K ε)) (hs : ∀ x, foldedSetIterable iter X.env x = pure x := by intro _; rfl) :
    PE X (.ListComp elt [⟨tg, iter, ifs, 0⟩] scope pos) (tDF X.K (dLc ι γ τ ε (own.map (·.2)))) := PE.weak (pe_lc hc hN hi ok hg ht he hs) lift_lc
theorem de_lc (hc : X.calm = true) (hN : X.N.Nodup) (hi : PI X tg iter (tDI X.K ι)) (ok : BlkOk X.N X.env.scope scope own)
    (hg : ∀ (s : Shared) (H : Hp) (C : Addr) (cl : List (Str × Addr)) (fp : List Addr), PG (X.blk s H scope (compEnvC scope cl C X.env) fp) tg (tDG X.K γ)) (ht : ∀ (s : Shared) (H : Hp) (C : Addr) (cl : List (Str × Addr)) (fp : List Addr), PTs (X.blk s H scope (compEnvC scope cl C X.env) fp) ifs (tDT X.K τ))
    (he : ∀ (s : Shared) (H : Hp) (C : Addr) (cl : List (Str × Addr)) (fp : List Addr), PE (X.blk s H scope (compEnvC scope cl C X.env) fp) elt (tD X.K ε)) (hs : ∀ x, foldedSetIterable iter X.env x = pure x := by intro _; rfl) :
    PE X (.ListComp elt [⟨tg, iter, ifs, 0⟩] scope pos) (tD X.K (dPub (dLc ι γ τ ε (own.map (·.2))))) := PE.weak (pe_lc hc hN hi ok hg ht he hs) (lift_pub lift_lc)
/-- y = [..]: the list is y's own -/
theorem ds_setLcF {i : Nat} {y : Str} {py spos : Pos} (hc : X.calm = true) (hN : X.N.Nodup) (hy : X.N[i]? = some y) (hyl : X.env.scope.names.lookup y = some .local)
    (hsw : swapsWith (.ListComp elt [⟨tg, iter, ifs, 0⟩] scope pos) (some (.Name y py)) spos.line X.env = pure true) (hi : PI X tg iter (tDI X.K ι)) (ok : BlkOk X.N X.env.scope scope own)
    (hg : ∀ (s : Shared) (H : Hp) (C : Addr) (cl : List (Str × Addr)) (fp : List Addr), PG (X.blk s H scope (compEnvC scope cl C X.env) fp) tg (tDG X.K γ)) (ht : ∀ (s : Shared) (H : Hp) (C : Addr) (cl : List (Str × Addr)) (fp : List Addr), PTs (X.blk s H scope (compEnvC scope cl C X.env) fp) ifs (tDT X.K τ))
    (he : ∀ (s : Shared) (H : Hp) (C : Addr) (cl : List (Str × Addr)) (fp : List Addr), PE (X.blk s H scope (compEnvC scope cl C X.env) fp) elt (tD X.K ε)) (hs : ∀ x, foldedSetIterable iter X.env x = pure x := by intro _; rfl) :
    PS X (.Assign [.Name y py] (.ListComp elt [⟨tg, iter, ifs, 0⟩] scope pos) spos) (tDS X.K (dSetF i (dLc ι γ τ ε (own.map (·.2))))) := PS.weak (ps_setLc hc hN hy hyl hsw hi ok hg ht he hs) (lift_setF lift_lc)
/-- y = [..], as data -/
theorem ds_setLc {i : Nat} {y : Str} {py spos : Pos} (hc : X.calm = true) (hN : X.N.Nodup) (hy : X.N[i]? = some y) (hyl : X.env.scope.names.lookup y = some .local)
    (hsw : swapsWith (.ListComp elt [⟨tg, iter, ifs, 0⟩] scope pos) (some (.Name y py)) spos.line X.env = pure true) (hi : PI X tg iter (tDI X.K ι)) (ok : BlkOk X.N X.env.scope scope own)
    (hg : ∀ (s : Shared) (H : Hp) (C : Addr) (cl : List (Str × Addr)) (fp : List Addr), PG (X.blk s H scope (compEnvC scope cl C X.env) fp) tg (tDG X.K γ)) (ht : ∀ (s : Shared) (H : Hp) (C : Addr) (cl : List (Str × Addr)) (fp : List Addr), PTs (X.blk s H scope (compEnvC scope cl C X.env) fp) ifs (tDT X.K τ))
    (he : ∀ (s : Shared) (H : Hp) (C : Addr) (cl : List (Str × Addr)) (fp : List Addr), PE (X.blk s H scope (compEnvC scope cl C X.env) fp) elt (tD X.K ε)) (hs : ∀ x, foldedSetIterable iter X.env x = pure x := by intro _; rfl) :
    PS X (.Assign [.Name y py] (.ListComp elt [⟨tg, iter, ifs, 0⟩] scope pos) spos) (tDS X.K (dSet i (dPub (dLc ι γ τ ε (own.map (·.2)))))) := PS.weak (ps_setLc hc hN hy hyl hsw hi ok hg ht he hs) (lift_set (lift_pub lift_lc))
end
end
/-- a comprehension whose turns change nothing: items of which p holds, each as g tells -/
theorem lc_of {α : Type} (items : List α) (enc : α → PyData) (p : α → Bool) (g : α → PyData) {γ : DTG} {τ : DTT} {ε : DTE} {vs : List Nat} {k : Slot → Env → Prop} {xs : List PyData} {ρ1 : Env} (hxs : xs = items.map enc) (hl : items.length ≤ 1000000)
    (ha : ∀ i ∈ vs, (ρ1.getD i .no).ads = []) (hj : ∀ j ∈ γ.js, j ∈ vs)
    (turn : ∀ a ∈ items, ∀ (Y : PyData → Env → Prop) (N : Env → Prop), (∀ ρ', wipeD ρ' vs = wipeD ρ1 vs → p a = true → Y (g a) ρ') → (∀ ρ', wipeD ρ' vs = wipeD ρ1 vs → p a = false → N ρ') →
      γ.t (enc a) (wipeD ρ1 vs) fun ρ2 => τ ρ2 fun b ρ3 => if b = true then ε ρ3 Y else N ρ3)
    (done : ∀ l, k (.lst l ((items.filter p).map g)) ρ1) :
    xs.length ≤ 1000000 ∧ (∀ i ∈ vs, (ρ1.getD i .no).ads = []) ∧ (∀ j ∈ γ.js, j ∈ vs) ∧ ∃ W : Nat → List PyData → Env → Prop, W 0 [] (wipeD ρ1 vs) ∧
      (∀ i x acc ρ', xs[i]? = some x → W i acc ρ' → γ.t x ρ' fun ρ2 => τ ρ2 fun b ρ3 => if b = true then ε ρ3 fun z ρ4 => W (i + 1) (acc ++ [z]) (wipeD ρ4 vs) else W (i + 1) acc (wipeD ρ3 vs)) ∧
      ∀ acc ρ', W xs.length acc ρ' → ∀ l, k (.lst l acc) (mergeD ρ1 ρ' vs) := by
  subst hxs
  refine ⟨by rw [List.length_map]; exact hl, ha, hj, fun i acc ρ' => ρ' = wipeD ρ1 vs ∧ acc = ((items.take i).filter p).map g, ⟨rfl, by simp⟩, ?_, ?_⟩
  · rintro i x acc ρ' hx ⟨rfl, rfl⟩
    rw [List.getElem?_map, Option.map_eq_some_iff] at hx
    obtain ⟨a, hi, rfl⟩ := hx
    have ht : items.take (i + 1) = items.take i ++ [a] := by rw [List.take_add_one, hi]; rfl
    refine turn a (List.mem_of_getElem? hi) _ _ (fun ρ' e hp => ⟨e, ?_⟩) fun ρ' e hp => ⟨e, ?_⟩
    · rw [ht, List.filter_append, List.map_append]
      simp [hp]
    · rw [ht, List.filter_append, List.map_append]
      simp [hp]
  · rintro acc ρ' ⟨rfl, rfl⟩ l
    rw [merge_wipe, List.length_map, List.take_of_length_le (Nat.le_refl _)]
    exact done l
/-- .. without a test -/
theorem lc_all {α : Type} (items : List α) (enc : α → PyData) (g : α → PyData) {γ : DTG} {ε : DTE} {vs : List Nat} {k : Slot → Env → Prop} {xs : List PyData} {ρ1 : Env} (hxs : xs = items.map enc) (hl : items.length ≤ 1000000)
    (ha : ∀ i ∈ vs, (ρ1.getD i .no).ads = []) (hj : ∀ j ∈ γ.js, j ∈ vs)
    (turn : ∀ a ∈ items, ∀ (Y : PyData → Env → Prop), (∀ ρ', wipeD ρ' vs = wipeD ρ1 vs → Y (g a) ρ') → γ.t (enc a) (wipeD ρ1 vs) fun ρ2 => ε ρ2 Y)
    (done : ∀ l, k (.lst l (items.map g)) ρ1) :
    xs.length ≤ 1000000 ∧ (∀ i ∈ vs, (ρ1.getD i .no).ads = []) ∧ (∀ j ∈ γ.js, j ∈ vs) ∧ ∃ W : Nat → List PyData → Env → Prop, W 0 [] (wipeD ρ1 vs) ∧
      (∀ i x acc ρ', xs[i]? = some x → W i acc ρ' → γ.t x ρ' fun ρ2 => dYes ρ2 fun b ρ3 => if b = true then ε ρ3 fun z ρ4 => W (i + 1) (acc ++ [z]) (wipeD ρ4 vs) else W (i + 1) acc (wipeD ρ3 vs)) ∧
      ∀ acc ρ', W xs.length acc ρ' → ∀ l, k (.lst l acc) (mergeD ρ1 ρ' vs) :=
  lc_of items enc (fun _ => true) g hxs hl ha hj (fun a h Y N hY _ => turn a h Y fun ρ' e => hY ρ' e rfl) fun l => by
    rw [List.filter_eq_self.mpr fun _ _ => rfl]
    exact done l
end DL
end
section
set_option Elab.async false
set_option maxRecDepth 100000
namespace DL
open PySem L2

/-! ### ints -/
section
variable {K : PySem.W.Frag}
theorem Out.mk {S : Hs} {Q : VK} {k : PyData → Prop} (o : Out K S Q k) (e : Ex S.d S.h) {v : V} {d : PyData} (q : Rep K S.d v d) (h : k d) : Q v S.h := o v d S (Grow.refl e) q h
@[simp] def dI (C : Int → Int → Prop) (g : Int → Int → Int) : DR2 := fun x y k => ∃ i j, x = .int i ∧ y = .int j ∧ C i j ∧ k (.int (g i j))
@[simp] def dI0 (g : Int → Int → Int) : DR2 := fun x y k => ∃ i j, x = .int i ∧ y = .int j ∧ k (.int (g i j))
@[simp] def dIB (g : Int → Int → Bool) : DR2 := fun x y k => ∃ i j, x = .int i ∧ y = .int j ∧ k (.bool (g i j))
theorem l_I {C : Int → Int → Prop} {g : Int → Int → Int} : Lift2 K (rI C fun i j => .int (g i j)) (dI C g) := by
  rintro S v u x y k Q e q1 q2 ⟨i, j, rfl, rfl, hc, hk⟩ o
  cases q1
  cases q2
  exact ⟨i, j, rfl, rfl, hc, o.mk e (.int _) hk⟩
theorem l_I0 {g : Int → Int → Int} : Lift2 K (rI0 fun i j => .int (g i j)) (dI0 g) := by
  rintro S v u x y k Q e q1 q2 ⟨i, j, rfl, rfl, hk⟩ o
  cases q1
  cases q2
  exact ⟨i, j, rfl, rfl, o.mk e (.int _) hk⟩
theorem l_IB {g : Int → Int → Bool} : Lift2 K (rI0 fun i j => .bl (g i j)) (dIB g) := by
  rintro S v u x y k Q e q1 q2 ⟨i, j, rfl, rfl, hk⟩ o
  cases q1
  cases q2
  exact ⟨i, j, rfl, rfl, o.mk e (.bl _) hk⟩

/-! ### data that may be compared, told by depth -/
def okD (n : Nat) (d : PyData) : Prop := d.canLay0 = true ∧ d.depth ≤ n ∧ d.hasDict = false
theorem okD.mono {n m : Nat} {d : PyData} (h : okD n d) (hn : n ≤ m) : okD m d := ⟨h.1, Nat.le_trans h.2.1 hn, h.2.2⟩
theorem ok_int {n : Nat} {i : Int} : okD n (.int i) := ⟨by simp [PyData.canLay0], by simp [PyData.depth], by simp [PyData.hasDict]⟩
theorem ok_non {n : Nat} : okD n .none := ⟨by simp [PyData.canLay0], by simp [PyData.depth], by simp [PyData.hasDict]⟩
theorem ok_bool {n : Nat} {b : Bool} : okD n (.bool b) := ⟨by simp [PyData.canLay0], by simp [PyData.depth], by simp [PyData.hasDict]⟩
theorem ok_str {n : Nat} {x : Str} (h : PyData.strOk x = true) : okD n (.str x) := ⟨by simpa [PyData.canLay0] using h, by simp [PyData.depth], by simp [PyData.hasDict]⟩
theorem ok_all {n : Nat} : ∀ {ds : List PyData}, (∀ d ∈ ds, okD n d) → PyData.canLayAll0 ds = true ∧ PyData.depthAll ds ≤ n ∧ PyData.hasDictAll ds = false
  | [], _ => ⟨by simp [PyData.canLayAll0], by simp [PyData.depthAll], by simp [PyData.hasDictAll]⟩
  | d :: ds, h => by
    obtain ⟨a, b, c⟩ := h d List.mem_cons_self
    obtain ⟨a', b', c'⟩ := ok_all fun d' hd => h d' (List.mem_cons_of_mem _ hd)
    refine ⟨by simp [PyData.canLayAll0, a, a'], ?_, by simp [PyData.hasDictAll, c, c']⟩
    simp only [PyData.depthAll]
    omega
theorem ok_tup {n : Nat} {ds : List PyData} (h : ∀ d ∈ ds, okD n d) : okD (n + 1) (.tuple ds) := by
  obtain ⟨a, b, c⟩ := ok_all h
  refine ⟨by simpa [PyData.canLay0] using a, ?_, by simpa [PyData.hasDict] using c⟩
  simp only [PyData.depth]
  omega
theorem ok_lst {n : Nat} {ds : List PyData} (h : ∀ d ∈ ds, okD n d) : okD (n + 1) (.list ds) := by
  obtain ⟨a, b, c⟩ := ok_all h
  refine ⟨by simpa [PyData.canLay0] using a, ?_, by simpa [PyData.hasDict] using c⟩
  simp only [PyData.depth]
  omega
theorem okD.shaped {d : PyData} (h : okD 60 d) : SeqAt.shaped d = true := by
  unfold SeqAt.shaped
  rw [Bool.and_eq_true]
  exact ⟨h.1, decide_eq_true (Nat.le_trans h.2.1 (by decide))⟩
/-- x == y -/
@[simp] def dEq : DR2 := fun x y k => okD 60 x ∧ okD 60 y ∧ k (.bool (PyData.eqv x y))
@[simp] def dNe : DR2 := fun x y k => okD 60 x ∧ okD 60 y ∧ k (.bool (!PyData.eqv x y))
theorem l_eq : Lift2 K (rEqD K) dEq := by
  rintro S v u x y k Q e q1 q2 ⟨h1, h2, hk⟩ o
  exact ⟨x, y, (q1.mono e).dp h1.2.2, (q2.mono e).dp h2.2.2, h1.shaped, h2.shaped, o.mk e (.bl _) hk⟩
theorem l_ne : Lift2 K (rNeD K) dNe := by
  rintro S v u x y k Q e q1 q2 ⟨h1, h2, hk⟩ o
  exact ⟨x, y, (q1.mono e).dp h1.2.2, (q2.mono e).dp h2.2.2, h1.shaped, h2.shaped, o.mk e (.bl _) hk⟩
/-- is None -/
def isN : PyData → Bool
  | .none => true
  | _ => false
@[simp] def dIsN : DR2 := fun x y k => y = .none ∧ k (.bool (isN x))
@[simp] def dNotN : DR2 := fun x y k => y = .none ∧ k (.bool (!isN x))
theorem rep_isN {H : Hp} {v : V} {d : PyData} (q : Rep K H v d) : decide (v = .non) = isN d := by cases q <;> simp [isN]
theorem l_isN : Lift2 K (fun x y H Q => y = .non ∧ Q (.bl (decide (x = .non))) H) dIsN := by
  rintro S v u x y k Q e q1 q2 ⟨rfl, hk⟩ o
  cases q2
  refine ⟨rfl, ?_⟩
  rw [rep_isN q1]
  exact o.mk e (.bl _) hk
theorem l_notN : Lift2 K (fun x y H Q => y = .non ∧ Q (.bl (!decide (x = .non))) H) dNotN := by
  rintro S v u x y k Q e q1 q2 ⟨rfl, hk⟩ o
  cases q2
  refine ⟨rfl, ?_⟩
  rw [rep_isN q1]
  exact o.mk e (.bl _) hk
/-- is True, is not True -/
@[simp] def dIsNotB : DR2 := fun x y k => ∃ a b, x = .bool a ∧ y = .bool b ∧ k (.bool (!decide (a = b)))
theorem l_isNotB : Lift2 K rNotB dIsNotB := by
  rintro S v u x y k Q e q1 q2 ⟨a, b, rfl, rfl, hk⟩ o
  cases q1
  cases q2
  exact ⟨a, b, rfl, rfl, o.mk e (.bl _) hk⟩
/-- the items of a tuple or a list -/
def items : PyData → Option (List PyData)
  | .tuple ds => some ds
  | .list ds => some ds
  | _ => none
/-- x in s, x not in s -/
def dIn : DR2 := fun x y k => ∃ ds, items y = some ds ∧ okD 60 x ∧ (∀ d ∈ ds, okD 59 d) ∧ k (.bool (ds.any fun z => PyData.eqv z x))
def dNotIn : DR2 := fun x y k => ∃ ds, items y = some ds ∧ okD 60 x ∧ (∀ d ∈ ds, okD 59 d) ∧ k (.bool (!ds.any fun z => PyData.eqv z x))
def rInS (K : PySem.W.Frag) (neg : Bool) : R2 := fun x y H Q => ∃ d e ds, Dp K H x d ∧ Dp K H y e ∧ items e = some ds ∧ SeqAt.shaped d = true ∧ SeqAt.shaped e = true ∧ Q (.bl (if neg then !ds.any fun z => PyData.eqv z d else ds.any fun z => PyData.eqv z d)) H
theorem op_inS {X : Cx} (hu : X.A.units + 65 < cLine) : OpR X (compareOp .In) (rInS X.K false) := by
  intro pins s σ H x y v u Q I rx ry h
  obtain ⟨d, e, ds, hd, he, hi, sd, se, q⟩ := h
  obtain ⟨as, r1⟩ := Dp.reads I d x v hd rx
  obtain ⟨bs, r2⟩ := Dp.reads I e y u he ry
  have hc := SeqAt.canLay_of_shaped se
  have hm : X.A.units + 1 + min (PyData.depthAll ds) d.depth < cLine := by
    have h1 := SeqAt.depth_of_shaped sd
    have h2 : min (PyData.depthAll ds) d.depth ≤ d.depth := Nat.min_le_right _ _
    omega
  cases e with
  | list es =>
    cases hi
    exact SeqAt.in_list_reads r2 r1 (by simpa [PyData.canLay0] using hc) (SeqAt.canLay_of_shaped sd) hm ⟨.bl _, H, I, rfl, q⟩
  | tuple es =>
    cases hi
    exact SeqAt.in_tuple_reads r2 r1 (by simpa [PyData.canLay0] using hc) (SeqAt.canLay_of_shaped sd) hm ⟨.bl _, H, I, rfl, q⟩
  | none => cases hi
  | bool _ => cases hi
  | int _ => cases hi
  | str _ => cases hi
  | dict _ => cases hi
theorem op_notInS {X : Cx} (hu : X.A.units + 65 < cLine) : OpR X (compareOp .NotIn) (rInS X.K true) := by
  intro pins s σ H x y v u Q I rx ry h
  obtain ⟨d, e, ds, hd, he, hi, sd, se, q⟩ := h
  obtain ⟨as, r1⟩ := Dp.reads I d x v hd rx
  obtain ⟨bs, r2⟩ := Dp.reads I e y u he ry
  have hc := SeqAt.canLay_of_shaped se
  have hm : X.A.units + 1 + min (PyData.depthAll ds) d.depth < cLine := by
    have h1 := SeqAt.depth_of_shaped sd
    have h2 : min (PyData.depthAll ds) d.depth ≤ d.depth := Nat.min_le_right _ _
    omega
  cases e with
  | list es =>
    cases hi
    exact SeqAt.notIn_list_reads r2 r1 (by simpa [PyData.canLay0] using hc) (SeqAt.canLay_of_shaped sd) hm ⟨.bl _, H, I, rfl, q⟩
  | tuple es =>
    cases hi
    exact SeqAt.notIn_tuple_reads r2 r1 (by simpa [PyData.canLay0] using hc) (SeqAt.canLay_of_shaped sd) hm ⟨.bl _, H, I, rfl, q⟩
  | none => cases hi
  | bool _ => cases hi
  | int _ => cases hi
  | str _ => cases hi
  | dict _ => cases hi
theorem ok_items {y : PyData} {ds : List PyData} (h : items y = some ds) (ho : ∀ d ∈ ds, okD 59 d) : okD 60 y := by
  cases y with
  | tuple es =>
    cases h
    exact ok_tup ho
  | list es =>
    cases h
    exact ok_lst ho
  | none => cases h
  | bool _ => cases h
  | int _ => cases h
  | str _ => cases h
  | dict _ => cases h
theorem l_in : Lift2 K (rInS K false) dIn := by
  rintro S v u x y k Q e q1 q2 ⟨ds, h1, h2, h3, hk⟩ o
  have h4 := ok_items h1 h3
  exact ⟨x, y, ds, (q1.mono e).dp h2.2.2, (q2.mono e).dp h4.2.2, h1, h2.shaped, h4.shaped, o.mk e (.bl _) hk⟩
theorem l_notIn : Lift2 K (rInS K true) dNotIn := by
  rintro S v u x y k Q e q1 q2 ⟨ds, h1, h2, h3, hk⟩ o
  have h4 := ok_items h1 h3
  exact ⟨x, y, ds, (q1.mono e).dp h2.2.2, (q2.mono e).dp h4.2.2, h1, h2.shaped, h4.shaped, o.mk e (.bl _) hk⟩

/-! ### tuples and lists joined, an item, a slice -/
@[simp] def dCatT : DR2 := fun x y k => ∃ xs ys, x = .tuple xs ∧ y = .tuple ys ∧ xs.length + ys.length ≤ 1000000 ∧ k (.tuple (xs ++ ys))
theorem l_catT : Lift2 K (rCatA K) dCatT := by
  rintro S v u x y k Q e q1 q2 ⟨xs, ys, rfl, rfl, hz, hk⟩ o
  cases q1 with
  | @tup a vs _ hs hr =>
    cases q2 with
    | @tup b us _ hs' hr' =>
      refine ⟨a, b, vs, us, rfl, rfl, e.sqT hs, e.sqT hs', by rw [hr.length, hr'.length, sizeLine_eq]; omega, fun h0 => ?_, fun _ h0 => ?_, fun _ _ p hp => ?_⟩
      · subst h0
        cases hr
        exact o.mk e (.tup hs' hr') hk
      · subst h0
        cases hr'
        rw [List.append_nil] at hk
        exact o.mk e (.tup hs hr) hk
      · have g := Grow.both (S := S) (o := .tup (vs ++ us)) e hp
        exact o _ _ _ g (.tup (SqT.of upd_same) ((hr.mono g.dd).append (hr'.mono g.dd))) hk
@[simp] def dCatL : DR2 := fun x y k => ∃ xs ys, x = .list xs ∧ y = .list ys ∧ xs.length + ys.length ≤ 1000000 ∧ k (.list (xs ++ ys))
theorem l_catL : Lift2 K rCat dCatL := by
  rintro S v u x y k Q e q1 q2 ⟨xs, ys, rfl, rfl, hz, hk⟩ o
  cases q1 with
  | @lst a vs _ hs hr =>
    cases q2 with
    | @lst b us _ hs' hr' =>
      refine ⟨a, b, vs, us, rfl, rfl, e _ _ hs, e _ _ hs', by rw [hr.length, hr'.length, sizeLine_eq]; omega, fun p hp => ?_⟩
      have g := Grow.both (S := S) (o := .lst (vs ++ us)) e hp
      exact o _ _ _ g (.lst upd_same ((hr.mono g.dd).append (hr'.mono g.dd))) hk
/-- s[i], i from 0 on -/
@[simp] def dIx : DR2 := fun x y k => ∃ ds d, ∃ i : Nat, items x = some ds ∧ y = .int i ∧ ds[i]? = some d ∧ k d
def rIx (K : PySem.W.Frag) : R2 := fun x y H Q => rIxL K x y H Q ∨ rIxT K x y H Q
theorem ix_any {X : Cx} : IxR X (rIx X.K) := IxR.or ix_list ix_tup
theorem l_ix : Lift2 K (rIx K) dIx := by
  rintro S v u x y k Q e q1 q2 ⟨ds, d, i, h1, rfl, h2, hk⟩ o
  cases q2
  cases x with
  | tuple es =>
    cases h1
    cases q1 with
    | tup hs hr =>
      obtain ⟨w, hw, q⟩ := hr.get h2
      exact .inr ⟨_, _, _, w, rfl, rfl, e.sqT hs, atI_nat hw, o.mk e q hk⟩
  | list es =>
    cases h1
    cases q1 with
    | lst hs hr =>
      obtain ⟨w, hw, q⟩ := hr.get h2
      exact .inl ⟨_, _, _, w, rfl, rfl, SqL.of (e _ _ hs), atI_nat hw, o.mk e q hk⟩
  | none => cases h1
  | bool _ => cases h1
  | int _ => cases h1
  | str _ => cases h1
  | dict _ => cases h1
end
section
variable {X : Cx} {a b c : Expr} {α β γ : DTE} {pos : Pos}
theorem de_ix (ha : PE X a (tD X.K α)) (hb : PE X b (tD X.K β)) (hs : PlainIx b := by intro _ _; rfl) : PE X (.Subscript a b pos) (tD X.K (dOp dIx α β)) := PE.weak (pe_ix ix_any ha hb hs) (lift_op l_ix (fun _ _ _ h => h) fun _ _ _ h => h)
/-- -i -/
@[simp] def dNeg (α : DTE) : DTE := fun ρ k => α ρ fun x ρ1 => ∃ i, x = .int i ∧ k (.int (-i)) ρ1
theorem de_neg (ha : PE X a (tD X.K α)) : PE X (.UnaryOp .USub a pos) (tD X.K (dNeg α)) := PE.weak (pe_un un_neg ha) fun σ H Q h => by
  obtain ⟨B, S, ρ, k, rfl, r0, h, c⟩ := h
  refine ⟨B, S, ρ, _, rfl, r0, h, fun v x ρ1 S1 e1 r1 q1 h1 => ?_⟩
  obtain ⟨i, rfl, h1⟩ := h1
  cases q1
  exact ⟨i, rfl, c _ _ ρ1 S1 e1 r1 (.int _) h1⟩
/-- a < b < c -/
@[simp] def dChain (r r' : DR2) (α β γ : DTE) : DTE := fun ρ k => α ρ fun x ρ1 => β ρ1 fun y ρ2 => r x y fun z => ∃ b, z = .bool b ∧ if b = true then γ ρ2 fun w ρ3 => r' y w fun d => k d ρ3 else k (.bool false) ρ2
theorem lift_chain {r2 r2' : R2} {r r' : DR2} (l : Lift2 X.K r2 r) (l' : Lift2 X.K r2' r') : ∀ σ H Q, tD X.K (dChain r r' α β γ) σ H Q → tChain r2 r2' (tD X.K α) (tD X.K β) (tD X.K γ) σ H Q := by
  intro σ H Q h
  obtain ⟨B, S, ρ, k, rfl, r0, h, c⟩ := h
  refine ⟨B, S, ρ, _, rfl, r0, h, fun v x ρ1 S1 e1 r1 q1 h1 => ?_⟩
  refine ⟨B, S1, ρ1, _, rfl, r1, h1, fun u y ρ2 S2 e2 r2' q2 h2 => ?_⟩
  refine l S2 v u x y _ _ r2'.gr.dh (q1.mono e2) q2 h2 fun z d T g qz hz => ?_
  obtain ⟨b, rfl, hb⟩ := hz
  cases qz
  refine ⟨b, rfl, ?_⟩
  cases b with
  | true =>
    simp only [if_true] at hb ⊢
    refine ⟨B, T, ρ2, _, rfl, r2'.grow g, hb, fun w d ρ3 S3 e3 r3 q3 h3 => ?_⟩
    exact l' S3 u w y d _ _ r3.gr.dh (q2.mono (g.dd.trans e3)) q3 h3 fun z d T' g' qz hz => c z d ρ3 T' ((((e1.trans e2).trans g.dd).trans e3).trans g'.dd) (r3.grow g') qz hz
  | false =>
    simp only [Bool.false_eq_true, if_false] at hb ⊢
    exact c _ _ ρ2 T ((e1.trans e2).trans g.dd) (r2'.grow g) (.bl _) hb
theorem de_chain {op op' : CmpOp} {r2 r2' : R2} {r r' : DR2} (ho : OpR X (compareOp op) r2) (l : Lift2 X.K r2 r) (ho' : OpR X (compareOp op') r2') (l' : Lift2 X.K r2' r') (ha : PE X a (tD X.K α)) (hb : PE X b (tD X.K β)) (hc : PE X c (tD X.K γ))
    (hm : lastMarks [op, op'] [b, c] = false := by with_unfolding_all rfl) : PE X (.Compare a [op, op'] [b, c] pos) (tD X.K (dChain r r' α β γ)) := PE.weak (pe_chain ho ho' ha hb hc hm) (lift_chain l l')
theorem dt_chain {op op' : CmpOp} {r2 r2' : R2} {r r' : DR2} (ho : OpR X (compareOp op) r2) (l : Lift2 X.K r2 r) (ho' : OpR X (compareOp op') r2') (l' : Lift2 X.K r2' r') (ha : PE X a (tD X.K α)) (hb : PE X b (tD X.K β)) (hc : PE X c (tD X.K γ))
    (hm : lastMarks [op, op'] [b, c] = false := by with_unfolding_all rfl) : PT X (.Compare a [op, op'] [b, c] pos) (tDT X.K (dTst (dChain r r' α β γ))) := PT.weak (pt_chain ho ho' ha hb hc hm) (lift_tst (lift_chain l l'))
/-! #### slices -/
abbrev DTO := Env → (Option Int → Env → Prop) → Prop
def tDO (K : PySem.W.Frag) (δ : DTO) : TO := fun σ H Q => ∃ B S ρ k, H = S.h ∧ RepS K B S σ ρ ∧ δ ρ k ∧ ∀ o ρ' S', Ex S.d S'.d → RepS K B S' σ ρ' → k o ρ' → Q o S'.h
theorem PO.weak {e : Option Expr} {t t' : TO} (h : PO X e t) (w : ∀ σ H Q, t' σ H Q → t σ H Q) : PO X e t' := ⟨fun pins s σ H Q I q => h.run pins s σ H Q I (w σ H Q q)⟩
@[simp] def dNoP : DTO := fun ρ k => k none ρ
@[simp] def dPart (α : DTE) : DTO := fun ρ k => α ρ fun d ρ1 => ∃ i, d = .int i ∧ k (some i) ρ1
theorem do_none : PO X none (tDO X.K dNoP) := PO.weak po_none fun σ H Q h => by
  obtain ⟨B, S, ρ, k, rfl, r0, h, c⟩ := h
  exact c none ρ S (Ex.refl _) r0 h
theorem do_some (h : PE X a (tD X.K α)) : PO X (some a) (tDO X.K (dPart α)) := PO.weak (po_some h) fun σ H Q h => by
  obtain ⟨B, S, ρ, k, rfl, r0, h, c⟩ := h
  refine ⟨B, S, ρ, _, rfl, r0, h, fun v x ρ1 S1 e1 r1 q1 h1 => ?_⟩
  obtain ⟨i, rfl, h1⟩ := h1
  cases q1
  exact ⟨i, rfl, c _ ρ1 S1 e1 r1 h1⟩
def cutD (xs : List PyData) (lo hi : Option Int) : List PyData := (xs.drop (HT.sIx xs.length 0 lo)).take (HT.sIx xs.length xs.length hi - HT.sIx xs.length 0 lo)
@[simp] def dSlT (α : DTE) (l h : DTO) : DTE := fun ρ k => α ρ fun d ρ1 => l ρ1 fun lo ρ2 => h ρ2 fun hi ρ3 => ∃ xs, d = .tuple xs ∧ ¬ (HT.sIx xs.length 0 lo = 0 ∧ HT.sIx xs.length xs.length hi = xs.length) ∧ k (.tuple (cutD xs lo hi)) ρ3
@[simp] def dSlL (α : DTE) (l h : DTO) : DTE := fun ρ k => α ρ fun d ρ1 => l ρ1 fun lo ρ2 => h ρ2 fun hi ρ3 => ∃ xs, d = .list xs ∧ k (.list (cutD xs lo hi)) ρ3
variable {lo hi : Option Expr} {p2 : Pos} {δl δh : DTO}
theorem Reps.cut {K : PySem.W.Frag} {H : Hp} {vs : List V} {xs : List PyData} {lo hi : Option Int} (r : Reps K H vs xs) : Reps K H (cutV vs lo hi) (cutD xs lo hi) := by
  unfold cutV cutD
  rw [r.length]
  exact (r.drop _).take _
theorem de_slT (ha : PE X a (tD X.K α)) (hl : PO X lo (tDO X.K δl)) (hh : PO X hi (tDO X.K δh)) : PE X (.Subscript a (.Slice lo hi none p2) pos) (tD X.K (dSlT α δl δh)) := PE.weak (pe_slice sl_tup ha hl hh) fun σ H Q h => by
  obtain ⟨B, S, ρ, k, rfl, r0, h, c⟩ := h
  refine ⟨B, S, ρ, _, rfl, r0, h, fun v x ρ1 S1 e1 r1 q1 h1 => ?_⟩
  refine ⟨B, S1, ρ1, _, rfl, r1, h1, fun l ρ2 S2 e2 r2 h2 => ?_⟩
  refine ⟨B, S2, ρ2, _, rfl, r2, h2, fun u ρ3 S3 e3 r3 h3 => ?_⟩
  obtain ⟨xs, rfl, hn, hk⟩ := h3
  cases q1 with
  | @tup p0 vs _ hs hr =>
    have hr3 := hr.mono (e2.trans e3)
    refine ⟨_, _, rfl, r3.gr.dh.sqT ((e2.trans e3).sqT hs), by rw [hr.length]; exact hn, fun p hp => ?_⟩
    have g := Grow.both (S := S3) (o := .tup (cutV vs l u)) r3.gr.dh hp
    exact c _ _ ρ3 ⟨_, _⟩ (((e1.trans e2).trans e3).trans g.dd) (r3.grow g) (.tup (SqT.of upd_same) (Reps.cut (hr3.mono g.dd))) hk
theorem de_slL (ha : PE X a (tD X.K α)) (hl : PO X lo (tDO X.K δl)) (hh : PO X hi (tDO X.K δh)) : PE X (.Subscript a (.Slice lo hi none p2) pos) (tD X.K (dSlL α δl δh)) := PE.weak (pe_slice sl_list ha hl hh) fun σ H Q h => by
  obtain ⟨B, S, ρ, k, rfl, r0, h, c⟩ := h
  refine ⟨B, S, ρ, _, rfl, r0, h, fun v x ρ1 S1 e1 r1 q1 h1 => ?_⟩
  refine ⟨B, S1, ρ1, _, rfl, r1, h1, fun l ρ2 S2 e2 r2 h2 => ?_⟩
  refine ⟨B, S2, ρ2, _, rfl, r2, h2, fun u ρ3 S3 e3 r3 h3 => ?_⟩
  obtain ⟨xs, rfl, hk⟩ := h3
  cases q1 with
  | @lst p0 vs _ hs hr =>
    have hr3 := hr.mono (e2.trans e3)
    refine ⟨_, _, rfl, SqL.of (r3.gr.dh _ _ ((e2.trans e3) _ _ hs)), fun p hp => ?_⟩
    have g := Grow.both (S := S3) (o := .lst (cutV vs l u)) r3.gr.dh hp
    exact c _ _ ρ3 ⟨_, _⟩ (((e1.trans e2).trans e3).trans g.dd) (r3.grow g) (.lst upd_same (Reps.cut (hr3.mono g.dd))) hk
end
end DL
end
section
set_option Elab.async false
set_option maxRecDepth 100000
namespace DL
open PySem L2

/-! ### a new object that no slot holds yet, kept while more is done -/
section
variable {K : PySem.W.Frag} {B S S1 S2 : Hs} {σ : St} {ρ : Env} {l : Addr} {o : HO}
theorem RepS.pin (r : RepS K B S σ ρ) (hl : S.h l = some o) (hd : S.d l = none) (hb : B.h l = none) (no : ∀ j, l ∉ (ρ.getD j .no).ads) : RepS K ⟨S.d, upd B.h l o⟩ S σ ρ := by
  refine ⟨upd_base r.gr hd hb hl, r.len, r.at_, r.ap, fun j a ha => ⟨(r.own j a ha).1, ?_⟩⟩
  have ne : a ≠ l := fun z => no j (z ▸ ha)
  show upd B.h l o a = none
  rw [upd_ne ne]
  exact (r.own j a ha).2
theorem RepS.unpin (g : Grow B S1) (r : RepS K ⟨S1.d, upd B.h l o⟩ S2 σ ρ) (hd : S1.d l = none) (hb : B.h l = none) : RepS K B S2 σ ρ ∧ S2.h l = some o ∧ S2.d l = none ∧ ∀ j, l ∉ (ρ.getD j .no).ads := by
  have ho : ∀ j a, a ∈ (ρ.getD j .no).ads → a ≠ l ∧ B.h a = none := fun j a ha => by
    have := (r.own j a ha).2
    change upd B.h l o a = none at this
    by_cases q : a = l
    · rw [q, upd_same] at this
      cases this
    · rw [upd_ne q] at this
      exact ⟨q, this⟩
  refine ⟨⟨⟨g.dd.trans r.gr.dd, fun a u e => ?_, r.gr.dh, fun a h1 h2 => ?_⟩, r.len, r.at_, r.ap, fun j a ha => ⟨(r.own j a ha).1, (ho j a ha).2⟩⟩, r.gr.hh l o upd_same, ?_, fun j hj => (ho j l hj).1 rfl⟩
  · have q : a ≠ l := fun z => by
      rw [z, hb] at e
      cases e
    exact r.gr.hh a u (by show upd B.h l o a = some u; rw [upd_ne q]; exact e)
  · have q : a ≠ l := fun z => h1 (z ▸ hb)
    exact r.gr.nw a (by show upd B.h l o a ≠ none; rw [upd_ne q]; exact h1) (g.nw a h1 h2)
  · exact r.gr.nw l (by show upd B.h l o l ≠ none; rw [upd_same]; exact nofun) hd
end

/-! ### several values at once, some of them things of their own -/
abbrev DTAS := Env → (List Slot → Env → Prop) → Prop
inductive SlotsAt (K : PySem.W.Frag) (S : Hs) : List V → List Slot → Prop
  | nil : SlotsAt K S [] []
  | cons {v : V} {vs : List V} {s : Slot} {ss : List Slot} : SlotAt K S (some v) s → SlotsAt K S vs ss → SlotsAt K S (v :: vs) (s :: ss)
def adsOf (ss : List Slot) : List Addr := ss.flatMap (·.ads)
def tDAS (K : PySem.W.Frag) (δ : DTAS) : TA := fun σ H Q => ∃ B S ρ k, H = S.h ∧ RepS K B S σ ρ ∧ δ ρ k ∧
  ∀ vs ss ρ' S', Ex S.d S'.d → RepS K B S' σ ρ' → SlotsAt K S' vs ss → (adsOf ss).Nodup → (∀ a ∈ adsOf ss, (∀ j, a ∉ (ρ'.getD j .no).ads) ∧ S'.d a = none ∧ B.h a = none) → k ss ρ' → Q vs S'.h
section
variable {X : Cx} {e : Expr} {es : List Expr} {α : DTE} {δ : DTF} {ω : DTAS} {pos : Pos}
@[simp] def sNil : DTAS := fun ρ k => k [] ρ
@[simp] def sDat (α : DTE) (ω : DTAS) : DTAS := fun ρ k => α ρ fun x ρ1 => ω ρ1 fun ss ρ2 => k (.dat x :: ss) ρ2
/-- an own thing among them (of one address) -/
@[simp] def sOwn (δ : DTF) (ω : DTAS) : DTAS := fun ρ k => δ ρ fun s ρ1 => ∃ p, s.pub = some p ∧ ω ρ1 fun ss ρ2 => k (s :: ss) ρ2
theorem das_nil : PA X [] (tDAS X.K sNil) := PA.weak pa_nil fun σ H Q h => by
  obtain ⟨B, S, ρ, k, rfl, r0, h, c⟩ := h
  exact c [] [] ρ S (Ex.refl _) r0 .nil List.nodup_nil (fun a ha => by cases ha) h
theorem das_dat (ha : PE X e (tD X.K α)) (hr : PA X es (tDAS X.K ω)) (hs : starEach (e :: es) X.env = (false, eval e X.env) :: starEach es X.env := by rfl) : PA X (e :: es) (tDAS X.K (sDat α ω)) := PA.weak (pa_cons ha hr hs) fun σ H Q h => by
  obtain ⟨B, S, ρ, k, rfl, r0, h, c⟩ := h
  refine ⟨B, S, ρ, _, rfl, r0, h, fun v x ρ1 S1 e1 r1 q1 h1 => ?_⟩
  refine ⟨B, S1, ρ1, _, rfl, r1, h1, fun vs xs ρ2 S2 e2 r2 q2 n2 f2 h2 => ?_⟩
  exact c _ _ ρ2 S2 (e1.trans e2) r2 (.cons (s := .dat x) ⟨v, rfl, q1.mono e2⟩ q2) n2 f2 h2
theorem das_own (ha : PE X e (tDF X.K δ)) (hr : PA X es (tDAS X.K ω)) (hs : starEach (e :: es) X.env = (false, eval e X.env) :: starEach es X.env := by rfl) : PA X (e :: es) (tDAS X.K (sOwn δ ω)) := PA.weak (pa_cons ha hr hs) fun σ H Q h => by
  obtain ⟨B, S, ρ, k, rfl, r0, h, c⟩ := h
  refine ⟨B, S, ρ, _, rfl, r0, h, fun v s ρ1 S1 e1 r1 q1 f1 h1 => ?_⟩
  obtain ⟨p, hp, h1⟩ := h1
  -- the object of s
  have key : ∀ (l : Addr) (o : HO), s.ads = [l] → S1.h l = some o → (∀ S2 : Hs, Ex S1.d S2.d → S2.h l = some o → SlotAt X.K S2 (some v) s) → tDAS X.K ω σ S1.h (fun vs H => Q (v :: vs) H) := by
    intro l o ha hl hst
    obtain ⟨g1, g2, g3⟩ := f1 l (by rw [ha]; simp)
    refine ⟨_, S1, ρ1, _, rfl, r1.pin hl g2 g3 g1, h1, fun vs ss ρ2 S2 e2 r2 q2 n2 f2 h2 => ?_⟩
    obtain ⟨u1, u2, u3, u4⟩ := r2.unpin r1.gr g2 g3
    have nl : l ∉ adsOf ss := fun z => by
      have := (f2 l z).2.2
      change upd B.h l o l = none at this
      rw [upd_same] at this
      cases this
    refine c _ _ ρ2 S2 (e1.trans e2) u1 (.cons (hst S2 e2 u2) q2) ?_ (fun a ha' => ?_) h2
    · show (s.ads ++ adsOf ss).Nodup
      rw [ha]
      exact List.nodup_cons.mpr ⟨nl, n2⟩
    · have ha' : a ∈ s.ads ++ adsOf ss := ha'
      rw [ha] at ha'
      rcases List.mem_append.mp ha' with z | z
      · have z : a = l := by simpa using z
        subst z
        exact ⟨u4, u3, g3⟩
      · have q := f2 a z
        have ne : a ≠ l := fun z' => nl (z' ▸ z)
        refine ⟨q.1, q.2.1, ?_⟩
        have := q.2.2
        change upd B.h l o a = none at this
        rwa [upd_ne ne] at this
  cases s with
  | lst l ds =>
    obtain ⟨hv, vs, q2, q3⟩ := q1
    exact key l _ rfl q2 fun S2 e2 h2 => ⟨hv, vs, h2, q3.mono e2⟩
  | dT l es =>
    obtain ⟨hv, vs, q2, q3⟩ := q1
    exact key l _ rfl q2 fun S2 e2 h2 => ⟨hv, vs, h2, q3.mono e2⟩
  | no => cases hp
  | dat d => cases hp
  | dK l ks => cases hp
  | crs C p' l w h' g row => cases hp
/-- a, b = x, y -/
@[simp] def dPar (i j : Nat) (ω : DTAS) : DTS := fun DD ρ => ω ρ fun ss ρ1 => ∃ s t, ss = [s, t] ∧ DD.nx ((ρ1.set i s).set j t)
theorem RepS.set2 {K : PySem.W.Frag} {B S : Hs} {σ : St} {ρ : Env} (r : RepS K B S σ ρ) {i j : Nat} {v w : V} {s t : Slot} (hv : SlotAt K S (some v) s) (hw : SlotAt K S (some w) t) (hn : (s.ads ++ t.ads).Nodup)
    (hf : ∀ a ∈ s.ads ++ t.ads, (∀ j, a ∉ (ρ.getD j .no).ads) ∧ S.d a = none ∧ B.h a = none) : RepS K B S ((σ.set i (some v)).set j (some w)) ((ρ.set i s).set j t) := by
  refine (r.set i hv fun a ha => hf a (List.mem_append_left _ ha)).set j hw fun a ha => ?_
  obtain ⟨f1, f2, f3⟩ := hf a (List.mem_append_right _ ha)
  refine ⟨fun m hm => ?_, f2, f3⟩
  by_cases e : m = i
  · subst e
    by_cases hl : m < ρ.length
    · rw [getD_set_self hl] at hm
      exact (List.nodup_append.mp hn).2.2 a hm a ha rfl
    · rw [set_ge (l := ρ) (by omega)] at hm
      exact f1 m hm
  · rw [getD_set_ne e] at hm
    exact f1 m hm
theorem ds_par {i j : Nat} {x y : Str} {a b : Expr} {px py pt : Pos} {kt k2 pt2} (hc : X.calm = true) (hN : X.N.Nodup) (hi : X.N[i]? = some x) (hj : X.N[j]? = some y) (hij : i ≠ j)
    (hx : X.env.scope.names.lookup x = some .local) (hy : X.env.scope.names.lookup y = some .local) (ha : PA X [a, b] (tDAS X.K ω))
    (hw : swappedStores [.Tuple [.Name x px, .Name y py] kt pt] (.Tuple [a, b] k2 pt2) X.env = pure (some [x, y]))
    (hs : swapsWithSole [.Tuple [.Name x px, .Name y py] kt pt] (.Tuple [a, b] k2 pt2) pos.line X.env = pure false := by rfl) :
    PS X (.Assign [.Tuple [.Name x px, .Name y py] kt pt] (.Tuple [a, b] k2 pt2) pos) (tDS X.K (dPar i j ω)) := PS.weak (L2.ps_par hc hN hi hj hij hx hy ha hw hs) fun D σ H h => by
  obtain ⟨B, S, ρ, DD, rfl, r, h, T⟩ := h
  refine ⟨B, S, ρ, _, rfl, r, h, fun vs ss ρ1 S1 e1 r1 q1 n1 f1 h1 => ?_⟩
  obtain ⟨s, t, rfl, h1⟩ := h1
  cases q1 with
  | cons q q' =>
    cases q' with
    | cons q' q'' =>
      cases q''
      have ea : adsOf [s, t] = s.ads ++ t.ads := by simp [adsOf]
      rw [ea] at n1 f1
      exact ⟨_, _, rfl, T.nx _ S1 _ (r1.set2 q q' n1 f1) h1⟩
/-- a, b, c = x, y, z: data, data, and a thing of its own or data -/
@[simp] def dPar3 (i j l : Nat) (ω : DTAS) : DTS := fun DD ρ => ω ρ fun ss ρ1 => ∃ d1 d2 t, ss = [.dat d1, .dat d2, t] ∧ DD.nx (((ρ1.set i (.dat d1)).set j (.dat d2)).set l t)
theorem ds_par3 {i j l : Nat} {x y z : Str} {a b c : Expr} {px py pz pt : Pos} {kt k2 pt2} (hc : X.calm = true) (hN : X.N.Nodup) (hi : X.N[i]? = some x) (hj : X.N[j]? = some y) (hl : X.N[l]? = some z) (hij : i ≠ j) (hil : i ≠ l) (hjl : j ≠ l)
    (hx : X.env.scope.names.lookup x = some .local) (hy : X.env.scope.names.lookup y = some .local) (hz : X.env.scope.names.lookup z = some .local) (ha : PA X [a, b, c] (tDAS X.K ω))
    (hw : swappedStores [.Tuple [.Name x px, .Name y py, .Name z pz] kt pt] (.Tuple [a, b, c] k2 pt2) X.env = pure (some [x, y, z]))
    (hs : swapsWithSole [.Tuple [.Name x px, .Name y py, .Name z pz] kt pt] (.Tuple [a, b, c] k2 pt2) pos.line X.env = pure false := by rfl) :
    PS X (.Assign [.Tuple [.Name x px, .Name y py, .Name z pz] kt pt] (.Tuple [a, b, c] k2 pt2) pos) (tDS X.K (dPar3 i j l ω)) := PS.weak (L2.ps_par3 hc hN hi hj hl hij hil hjl hx hy hz ha hw hs) fun D σ H h => by
  obtain ⟨B, S, ρ, DD, rfl, r, h, T⟩ := h
  refine ⟨B, S, ρ, _, rfl, r, h, fun vs ss ρ1 S1 e1 r1 q1 n1 f1 h1 => ?_⟩
  obtain ⟨d1, d2, t, rfl, h1⟩ := h1
  cases q1 with
  | cons q q' =>
    cases q' with
    | cons q' q'' =>
      cases q'' with
      | cons q'' q3 =>
        cases q3
        obtain ⟨u1, eu, q⟩ := q
        obtain ⟨u2, eu', q'⟩ := q'
        cases eu
        cases eu'
        have ea : adsOf [.dat d1, .dat d2, t] = t.ads := by simp [adsOf, Slot.ads]
        rw [ea] at n1 f1
        refine ⟨_, _, _, rfl, T.nx _ S1 _ (((r1.setDat i q).setDat j q').set l q'' fun a ha => ?_) h1⟩
        obtain ⟨f1, f2, f3⟩ := f1 a ha
        refine ⟨fun m hm => ?_, f2, f3⟩
        have key : ∀ (ρ : Env) (i : Nat) (d : PyData), a ∈ ((ρ.set i (.dat d)).getD m .no).ads → a ∈ (ρ.getD m .no).ads := fun ρ i d h => by
          by_cases e : m = i
          · subst e
            by_cases hl : m < ρ.length
            · rw [getD_set_self hl] at h
              cases h
            · rwa [set_ge (l := ρ) (by omega)] at h
          · rwa [getD_set_ne e] at h
        exact f1 m (key _ _ _ (key _ _ _ hm))
end
end DL
end
section
set_option Elab.async false
set_option maxRecDepth 100000
namespace DL
open PySem L2

section
variable {X : Cx} {a b e : Expr} {es : List Expr} {α β : DTE} {ω : DTA} {pos apos cpos p : Pos} {x : Str} {i : Nat}
theorem RepS.lst {K : PySem.W.Frag} {B S : Hs} {σ : St} {ρ : Env} (r : RepS K B S σ ρ) {i : Nat} {l : Addr} {ds : List PyData} (e : ρ[i]? = some (.lst l ds)) : σ[i]? = some (some (.ref l)) ∧ ∃ vs, S.h l = some (.lst vs) ∧ Reps K S.d vs ds := by
  obtain ⟨h, q⟩ := r.slot e
  exact ⟨join_some h, q⟩
theorem RepS.setLst {K : PySem.W.Frag} {B S : Hs} {σ : St} {ρ : Env} (r : RepS K B S σ ρ) {i : Nat} {l : Addr} {ds ds' : List PyData} {vs : List V} (e : ρ[i]? = some (.lst l ds)) (q : Reps K S.d vs ds') : RepS K B ⟨S.d, upd S.h l (.lst vs)⟩ σ (ρ.set i (.lst l ds')) :=
  r.mutate (s' := .lst l ds') e (by simp [Slot.ads]) rfl ⟨(r.slot e).1, vs, upd_same, q⟩
abbrev VisX (X : Cx) (x : Str) : Prop := Vis X.env.scope x
/-! ### an own list -/
/-- xs.append(e) -/
@[simp] def dApp (i : Nat) (α : DTE) : DTE := fun ρ k => ∃ l ds, ρ[i]? = some (.lst l ds) ∧ α ρ fun d ρ1 => ∃ ds1, ρ1[i]? = some (.lst l ds1) ∧ ds1.length < 1000000 ∧ k .none (ρ1.set i (.lst l (ds1 ++ [d])))
theorem de_app (hx : PE X (.Name x p) (tVar i)) (he : PE X e (tD X.K α)) (hbase : attributeBase (.Name x p) "append" X.env (eval (.Name x p) X.env) = eval (.Name x p) X.env := by rfl)
    (hfew : ((backTo cpos (starEach [e] X.env)).all (fun x => !x.1) && (backToKw cpos (keywordEach [] X.env)).all (fun x => x.1.isSome) && decide (([e] : List Expr).length + ([] : List Keyword).length + (if ([] : List Keyword).isEmpty then 0 else 1) < 30)) = true := by rfl)
    (hline : (apos.endLine == cpos.line) = true := by rfl) (hs : starEach [e] X.env = (false, eval e X.env) :: starEach [] X.env := by rfl) (hplain : (backTo cpos (starEach [] X.env)).any (·.1) = false := by rfl) :
    PE X (.Call (.Attribute (.Name x p) "append" apos) [e] [] cpos) (tD X.K (dApp i α)) :=
  PE.weak (pe_bm PySem.F.plainAttrs_list PySem.F.slot_list_append PySem.F.type_list_append mt_append hx (pa_cons he pa_nil hs) hbase hfew hline hs hplain) fun σ H Q h => by
    obtain ⟨B, S, ρ, k, rfl, r, ⟨l, ds, e1, h⟩, c⟩ := h
    obtain ⟨hv, vs, q2, q3⟩ := r.lst e1
    refine ⟨_, hv, .inl ⟨rfl, vs, SqL.of q2⟩, B, S, ρ, _, rfl, r, h, fun v d ρ1 S1 ex1 r1 q1 h1 => ?_⟩
    obtain ⟨ds1, e2, hz, h1⟩ := h1
    obtain ⟨hv1, vs1, q4, q5⟩ := r1.lst e2
    refine ⟨l, vs1, v, rfl, rfl, q4, by rw [q5.length, sizeLine_eq]; omega, ?_⟩
    exact c .non .none _ ⟨S1.d, upd S1.h l (.lst (vs1 ++ [v]))⟩ ex1 (r1.setLst e2 (q5.append (.cons q1 .nil))) .non h1
/-- xs.extend(e), e a list that is data -/
@[simp] def dExt (i : Nat) (α : DTE) : DTE := fun ρ k => ∃ l ds, ρ[i]? = some (.lst l ds) ∧ α ρ fun d ρ1 => ∃ ds1 es, d = .list es ∧ ρ1[i]? = some (.lst l ds1) ∧ ds1.length + es.length ≤ 1000000 ∧ k .none (ρ1.set i (.lst l (ds1 ++ es)))
theorem de_ext (hx : PE X (.Name x p) (tVar i)) (he : PE X e (tD X.K α)) (hbase : attributeBase (.Name x p) "extend" X.env (eval (.Name x p) X.env) = eval (.Name x p) X.env := by rfl)
    (hfew : ((backTo cpos (starEach [e] X.env)).all (fun x => !x.1) && (backToKw cpos (keywordEach [] X.env)).all (fun x => x.1.isSome) && decide (([e] : List Expr).length + ([] : List Keyword).length + (if ([] : List Keyword).isEmpty then 0 else 1) < 30)) = true := by rfl)
    (hline : (apos.endLine == cpos.line) = true := by rfl) (hs : starEach [e] X.env = (false, eval e X.env) :: starEach [] X.env := by rfl) (hplain : (backTo cpos (starEach [] X.env)).any (·.1) = false := by rfl) :
    PE X (.Call (.Attribute (.Name x p) "extend" apos) [e] [] cpos) (tD X.K (dExt i α)) :=
  PE.weak (pe_bm PySem.F.plainAttrs_list PySem.F.slot_list_extend PySem.F.type_list_extend mt_extend hx (pa_cons he pa_nil hs) hbase hfew hline hs hplain) fun σ H Q h => by
    obtain ⟨B, S, ρ, k, rfl, r, ⟨l, ds, e1, h⟩, c⟩ := h
    obtain ⟨hv, vs, q2, q3⟩ := r.lst e1
    refine ⟨_, hv, .inl ⟨rfl, vs, SqL.of q2⟩, B, S, ρ, _, rfl, r, h, fun v d ρ1 S1 ex1 r1 q1 h1 => ?_⟩
    obtain ⟨ds1, es, rfl, e2, hz, h1⟩ := h1
    obtain ⟨hv1, vs1, q4, q5⟩ := r1.lst e2
    cases q1 with
    | @lst b zs _ hs hr =>
      refine ⟨l, b, vs1, zs, rfl, rfl, q4, r1.gr.dh _ _ hs, by rw [q5.length, hr.length, sizeLine_eq]; omega, ?_⟩
      exact c .non .none _ ⟨S1.d, upd S1.h l (.lst (vs1 ++ zs))⟩ ex1 (r1.setLst e2 (q5.append hr)) .non h1
/-- xs.pop() -/
@[simp] def dPop (i : Nat) : DTE := fun ρ k => ∃ l ds d, ρ[i]? = some (.lst l (ds ++ [d])) ∧ k d (ρ.set i (.lst l ds))
theorem de_pop (hx : PE X (.Name x p) (tVar i)) (hbase : attributeBase (.Name x p) "pop" X.env (eval (.Name x p) X.env) = eval (.Name x p) X.env := by rfl) (hline : (apos.endLine == cpos.line) = true := by rfl) :
    PE X (.Call (.Attribute (.Name x p) "pop" apos) [] [] cpos) (tD X.K (dPop i)) :=
  PE.weak (pe_bm0 PySem.F.plainAttrs_list PySem.F.slot_list_pop PySem.F.type_list_pop mt_pop hx hbase hline) fun σ H Q h => by
    obtain ⟨B, S, ρ, k, rfl, r, ⟨l, ds, d, e1, h⟩, c⟩ := h
    obtain ⟨hv, vs, q2, q3⟩ := r.lst e1
    have hl : vs.length = ds.length + 1 := by rw [q3.length, List.length_append]; rfl
    obtain ⟨v, hv', qv⟩ := q3.get (i := ds.length) (d := d) (by simp)
    refine ⟨_, hv, .inl ⟨rfl, vs, SqL.of q2⟩, l, vs, v, rfl, rfl, q2, by rw [hl]; exact hv', ?_⟩
    have q4 : Reps X.K S.d vs.dropLast ds := by
      have := q3.take ds.length
      rw [List.take_left' rfl] at this
      rwa [List.dropLast_eq_take, hl]
    exact c v d _ ⟨S.d, upd S.h l (.lst vs.dropLast)⟩ (Ex.refl _) (r.setLst e1 q4) qv h
/-- xs.pop(e) -/
@[simp] def dPopAt (i : Nat) (α : DTE) : DTE := fun ρ k => ∃ l ds, ρ[i]? = some (.lst l ds) ∧ α ρ fun z ρ1 => ∃ ds1 d, ∃ j : Nat, z = .int j ∧ ρ1[i]? = some (.lst l ds1) ∧ ds1.length ≤ 1000000 ∧ ds1[j]? = some d ∧ k d (ρ1.set i (.lst l (ds1.eraseIdx j)))
theorem de_popAt (hx : PE X (.Name x p) (tVar i)) (he : PE X e (tD X.K α)) (hbase : attributeBase (.Name x p) "pop" X.env (eval (.Name x p) X.env) = eval (.Name x p) X.env := by rfl)
    (hfew : ((backTo cpos (starEach [e] X.env)).all (fun x => !x.1) && (backToKw cpos (keywordEach [] X.env)).all (fun x => x.1.isSome) && decide (([e] : List Expr).length + ([] : List Keyword).length + (if ([] : List Keyword).isEmpty then 0 else 1) < 30)) = true := by rfl)
    (hline : (apos.endLine == cpos.line) = true := by rfl) (hs : starEach [e] X.env = (false, eval e X.env) :: starEach [] X.env := by rfl) (hplain : (backTo cpos (starEach [] X.env)).any (·.1) = false := by rfl) :
    PE X (.Call (.Attribute (.Name x p) "pop" apos) [e] [] cpos) (tD X.K (dPopAt i α)) :=
  PE.weak (pe_bm PySem.F.plainAttrs_list PySem.F.slot_list_pop PySem.F.type_list_pop mt_popAt hx (pa_cons he pa_nil hs) hbase hfew hline hs hplain) fun σ H Q h => by
    obtain ⟨B, S, ρ, k, rfl, r, ⟨l, ds, e1, h⟩, c⟩ := h
    obtain ⟨hv, vs, q2, q3⟩ := r.lst e1
    refine ⟨_, hv, .inl ⟨rfl, vs, SqL.of q2⟩, B, S, ρ, _, rfl, r, h, fun v z ρ1 S1 ex1 r1 q1 h1 => ?_⟩
    obtain ⟨ds1, d, j, rfl, e2, hz, hj, h1⟩ := h1
    cases q1
    obtain ⟨hv1, vs1, q4, q5⟩ := r1.lst e2
    obtain ⟨w, hw, qw⟩ := q5.get hj
    have hjl : j < vs1.length := (List.getElem?_eq_some_iff.mp hw).1
    have hlen := q5.length
    refine ⟨l, vs1, j, j, w, rfl, rfl, q4, by omega, by omega, ?_, hw, ?_⟩
    · exact (ixN_seq (by
        unfold ixN
        rw [if_pos (by omega)]
        simp [hjl])).1
    · exact c w d _ ⟨S1.d, upd S1.h l (.lst (vs1.eraseIdx j))⟩ ex1 (r1.setLst e2 (q5.erase j)) qw h1
/-- len(xs) -/
@[simp] def dLenO (i : Nat) : DTE := fun ρ k => ∃ l ds, ρ[i]? = some (.lst l ds) ∧ k (.int ds.length) ρ
theorem de_lenO {q : Pos} (hx : PE X (.Name x p) (tVar i)) (hg : Gl X "len") (hm : X.mg "len" = none) (hs : starEach [.Name x p] X.env = (false, eval (.Name x p) X.env) :: starEach [] X.env := by rfl) (hpl : (backTo pos (starEach [] X.env)).any (·.1) = false := by rfl) :
    PE X (.Call (.Name "len" q) [.Name x p] [] pos) (tD X.K (dLenO i)) :=
  PE.weak (pe_callB call_len_seq hg hm (by decide +kernel) (pa_cons hx pa_nil hs) (by decide) (by decide) hs hpl) fun σ H Q h => by
    obtain ⟨B, S, ρ, k, rfl, r, ⟨l, ds, e1, h⟩, c⟩ := h
    obtain ⟨hv, vs, q2, q3⟩ := r.lst e1
    refine ⟨_, hv, l, vs, rfl, .inl (SqL.of q2), ?_⟩
    rw [q3.length]
    exact c _ _ ρ S (Ex.refl _) r (.int _) h
/-- tuple(xs) -/
@[simp] def dTupO (i : Nat) : DTE := fun ρ k => ∃ l ds, ρ[i]? = some (.lst l ds) ∧ k (.tuple ds) ρ
theorem de_tupO {q : Pos} (hx : PE X (.Name x p) (tVar i)) (hg : Gl X "tuple") (hm : X.mg "tuple" = none) (hs : starEach [.Name x p] X.env = (false, eval (.Name x p) X.env) :: starEach [] X.env := by rfl) (hpl : (backTo pos (starEach [] X.env)).any (·.1) = false := by rfl) :
    PE X (.Call (.Name "tuple" q) [.Name x p] [] pos) (tD X.K (dTupO i)) :=
  PE.weak (pe_callTy call_tuple_of hg hm (by decide +kernel) (pa_cons hx pa_nil hs) (by decide) (by decide) hs hpl) fun σ H Q h => by
    obtain ⟨B, S, ρ, k, rfl, r, ⟨l, ds, e1, h⟩, c⟩ := h
    obtain ⟨hv, vs, q2, q3⟩ := r.lst e1
    refine ⟨_, hv, l, vs, rfl, .inl ⟨SqL.of q2, fun p hp => ?_⟩⟩
    have g := Grow.both (S := S) (o := .tup vs) r.gr.dh hp
    exact c _ _ ρ ⟨_, _⟩ g.dd (r.grow g) (.tup (SqT.of upd_same) (q3.mono g.dd)) h
/-- xs[e] -/
@[simp] def dIxO (i : Nat) (β : DTE) : DTE := fun ρ k => (∃ l ds, ρ[i]? = some (.lst l ds)) ∧ β ρ fun y ρ1 => ∃ l ds d, ∃ j : Nat, y = .int j ∧ ρ1[i]? = some (.lst l ds) ∧ ds[j]? = some d ∧ k d ρ1
theorem de_ixO (hx : PE X (.Name x p) (tVar i)) (hb : PE X b (tD X.K β)) (hs : PlainIx b := by intro _ _; rfl) : PE X (.Subscript (.Name x p) b pos) (tD X.K (dIxO i β)) := PE.weak (pe_ix ix_list hx hb hs) fun σ H Q h => by
  obtain ⟨B, S, ρ, k, rfl, r, ⟨⟨l, ds, e1⟩, h⟩, c⟩ := h
  obtain ⟨hv, vs, q2, q3⟩ := r.lst e1
  refine ⟨_, hv, B, S, ρ, _, rfl, r, h, fun v z ρ1 S1 ex1 r1 q1 h1 => ?_⟩
  obtain ⟨l', ds', d, j, rfl, e2, hj, h1⟩ := h1
  cases q1
  obtain ⟨hv', vs', q4, q5⟩ := r1.lst e2
  rw [hv] at hv'
  cases hv'
  obtain ⟨w, hw, qw⟩ := q5.get hj
  exact ⟨_, _, _, w, rfl, rfl, SqL.of q4, atI_nat hw, c w d ρ1 S1 ex1 r1 qw h1⟩
/-- xs[e] = v -/
@[simp] def dSetI (i : Nat) (α β : DTE) : DTS := fun DD ρ => α ρ fun d ρ1 => (∃ l ds, ρ1[i]? = some (.lst l ds)) ∧ β ρ1 fun y ρ2 => ∃ l ds, ∃ j : Nat, y = .int j ∧ ρ2[i]? = some (.lst l ds) ∧ j < ds.length ∧ DD.nx (ρ2.set i (.lst l (ds.set j d)))
theorem ds_setI {pos' : Pos} (hx : PE X (.Name x p) (tVar i)) (hb : PE X b (tD X.K β)) (he : PE X e (tD X.K α)) (hs : swapsWithSole [.Subscript (.Name x p) b pos'] e pos.line X.env = pure false := by rfl) (hw : swappedStores [.Subscript (.Name x p) b pos'] e X.env = pure none := by rfl)
    (h1 : (assignEach [.Subscript (.Name x p) b pos'] X.env).map (·.2) = [assign (.Subscript (.Name x p) b pos') X.env] := by rfl)
    (ha : ∀ v, assign (.Subscript (.Name x p) b pos') X.env v = (do
      let ov ← holding [v] (eval (.Name x p) X.env)
      let iv ← holding [v, ov] (eval b X.env)
      standAt pos'
      holding [v, ov, iv] (setItem ov iv v)
      release [v, ov, iv] []) := by intro _; rfl) : PS X (.Assign [.Subscript (.Name x p) b pos'] e pos) (tDS X.K (dSetI i α β)) :=
  PS.weak (ps_asg he (pg_sub hx hb set_list ha) hs hw h1) fun D σ H h => by
    obtain ⟨B, S, ρ, DD, rfl, r, h, T⟩ := h
    refine ⟨B, S, ρ, _, rfl, r, h, fun v d ρ1 S1 e1 r1 q1 h1 => ?_⟩
    obtain ⟨⟨l, ds, el⟩, h1⟩ := h1
    obtain ⟨hv, vs, q2, q3⟩ := r1.lst el
    refine ⟨_, hv, B, S1, ρ1, _, rfl, r1, h1, fun w y ρ2 S2 e2 r2 q4 h2 => ?_⟩
    obtain ⟨l', ds', j, rfl, el', hj, h2⟩ := h2
    cases q4
    obtain ⟨hv', vs', q5, q6⟩ := r2.lst el'
    rw [hv] at hv'
    cases hv'
    refine ⟨l, vs', j, j, rfl, rfl, q5, ?_, T.nx _ ⟨S2.d, upd S2.h l (.lst (vs'.set j v))⟩ _ (r2.setLst el' (q6.set j (q1.mono e2))) h2⟩
    unfold ixN
    rw [if_pos (by omega)]
    have : j < vs'.length := by rw [q6.length]; exact hj
    simp [this]
/-- while xs: -/
@[simp] def dTruO (i : Nat) : DTT := fun ρ k => ∃ l ds, ρ[i]? = some (.lst l ds) ∧ k (!ds.isEmpty) ρ
theorem dt_truO (hx : PE X (.Name x p) (tVar i)) (he : ∀ whole, isTrue (.Name x p) X.env whole = (do let v ← whole; standAt (Expr.pos (.Name x p)); holding [v] (truthy v)) := by intro _; rfl) : PT X (.Name x p) (tDT X.K (dTruO i)) := PT.weak (pt_truth hx he) fun σ H Q h => by
  obtain ⟨B, S, ρ, k, rfl, r, ⟨l, ds, e1, h⟩, c⟩ := h
  obtain ⟨hv, vs, q2, q3⟩ := r.lst e1
  refine ⟨_, hv, _, .inl ⟨vs, SqL.of q2, rfl⟩, ?_⟩
  have e : vs.isEmpty = ds.isEmpty := by
    have := q3.length
    cases vs <;> cases ds <;> first | rfl | simp at this
  rw [e]
  exact c _ ρ S (Ex.refl _) r h
/-- a tuple's (a list's) truth, as data -/
@[simp] def dTru (α : DTE) : DTT := fun ρ k => α ρ fun d ρ1 => ∃ ds, items d = some ds ∧ k (!ds.isEmpty) ρ1
theorem dt_tru (ha : PE X a (tD X.K α)) (he : ∀ whole, isTrue a X.env whole = (do let v ← whole; standAt a.pos; holding [v] (truthy v)) := by intro _; rfl) : PT X a (tDT X.K (dTru α)) := PT.weak (pt_truth ha he) fun σ H Q h => by
  obtain ⟨B, S, ρ, k, rfl, r, h, c⟩ := h
  refine ⟨B, S, ρ, _, rfl, r, h, fun v d ρ1 S1 e1 r1 q1 h1 => ?_⟩
  obtain ⟨ds, hi, h1⟩ := h1
  have key : ∀ vs : List V, Reps X.K S1.d vs ds → vs.isEmpty = ds.isEmpty := fun vs q => by
    have := q.length
    cases vs <;> cases ds <;> first | rfl | simp at this
  cases d with
  | tuple es =>
    cases hi
    cases q1 with
    | tup hs hr => exact ⟨_, .inr (.inl ⟨_, r1.gr.dh.sqT hs, rfl⟩), by rw [key _ hr]; exact c _ ρ1 S1 e1 r1 h1⟩
  | list es =>
    cases hi
    cases q1 with
    | lst hs hr => exact ⟨_, .inl ⟨_, SqL.of (r1.gr.dh _ _ hs), rfl⟩, by rw [key _ hr]; exact c _ ρ1 S1 e1 r1 h1⟩
  | none => cases hi
  | bool _ => cases hi
  | int _ => cases hi
  | str _ => cases hi
  | dict _ => cases hi
/-- xs != e, xs an own list, e data -/
@[simp] def dNeO (i : Nat) (β : DTE) : DTE := fun ρ k => (∃ l ds, ρ[i]? = some (.lst l ds)) ∧ β ρ fun y ρ1 => ∃ l ds, ρ1[i]? = some (.lst l ds) ∧ okD 60 (.list ds) ∧ okD 60 y ∧ k (.bool (!PyData.eqv (.list ds) y)) ρ1
theorem dt_neO (hu : X.A.units + 64 < cLine) (hx : PE X (.Name x p) (tVar i)) (hb : PE X b (tD X.K β)) : PT X (.Compare (.Name x p) [.NotEq] [b] pos) (tDT X.K (dTst (dNeO i β))) :=
  PT.weak (pt_cmpR (op_neD hu) hx hb (nomark _)) (lift_tst fun σ H Q h => by
    obtain ⟨B, S, ρ, k, rfl, r, ⟨⟨l, ds, e1⟩, h⟩, c⟩ := h
    obtain ⟨hv, vs, q2, q3⟩ := r.lst e1
    refine ⟨_, hv, B, S, ρ, _, rfl, r, h, fun v y ρ1 S1 ex1 r1 q1 h1 => ?_⟩
    obtain ⟨l', ds', e2, o1, o2, h1⟩ := h1
    obtain ⟨hv', vs', q4, q5⟩ := r1.lst e2
    rw [hv] at hv'
    cases hv'
    have o3 : PyData.hasDictAll ds' = false := by simpa [PyData.hasDict] using o1.2.2
    exact ⟨_, _, .lst (SqL.of q4) ((q5.mono r1.gr.dh).dp o3), (q1.mono r1.gr.dh).dp o2.2.2, o1.shaped, o2.shaped, c _ _ ρ1 S1 ex1 r1 (.bl _) h1⟩)
end
end DL
end
section
set_option Elab.async false
set_option maxRecDepth 100000
namespace DL
open PySem L2

/-! ### dicts whose keys are tuples, as data -/
abbrev KMap := List (List Key × PyData)
def encKV (p : List Key × PyData) : PyData × PyData := (.tuple (p.1.map keyD), p.2)
def dictD (m : KMap) : PyData := .dict (m.map encKV)
def lookM (m : KMap) (k : List Key) : Option PyData := (m.find? fun p => decide (p.1 = k)).map (·.2)
def putM (m : KMap) (k : List Key) (d : PyData) : KMap := if (m.any fun p => decide (p.1 = k)) = true then m.map (fun p => if p.1 = k then (p.1, d) else p) else m ++ [(k, d)]
theorem keyD_inj {a b : Key} (e : keyD a = keyD b) : a = b := by
  cases a with
  | inl i => cases b with
    | inl j =>
      have e' : PyData.int i = PyData.int j := e
      injection e' with e'
      rw [e']
    | inr y => exact nomatch (show PyData.int i = PyData.str y from e)
  | inr x => cases b with
    | inl j => exact nomatch (show PyData.str x = PyData.int j from e)
    | inr y =>
      have e' : PyData.str x = PyData.str y := e
      injection e' with e'
      rw [e']
theorem keyDs_inj : ∀ {a b : List Key}, a.map keyD = b.map keyD → a = b
  | [], [], _ => rfl
  | [], _ :: _, e => by simp at e
  | _ :: _, [], e => by simp at e
  | x :: xs, y :: ys, e => by
    rw [List.map_cons, List.map_cons] at e
    injection e with e1 e2
    rw [keyD_inj e1, keyDs_inj e2]
inductive KVm (K : PySem.W.Frag) (H : Hp) : List (List Key × V) → KMap → Prop
  | nil : KVm K H [] []
  | cons {k : List Key} {v : V} {d : PyData} {r : List (List Key × V)} {m : KMap} : Rep K H v d → KVm K H r m → KVm K H ((k, v) :: r) ((k, d) :: m)
theorem kvm_of {K : PySem.W.Frag} {H : Hp} : ∀ {m : KMap} {kvs : List (List Key × V)}, RepKV K H kvs (m.map encKV) → KVm K H kvs m
  | [], _, h => by cases h; exact .nil
  | (k, d) :: m, kvs, h => by
    rw [List.map_cons] at h
    generalize hz : encKV (k, d) = z at h
    cases h with
    | @cons k' v r d' es q t =>
      obtain ⟨h1, h2⟩ := Prod.mk.inj hz
      injection h1 with h1
      obtain rfl := keyDs_inj h1
      obtain rfl := h2
      exact .cons q (kvm_of t)
theorem KVm.rep {K : PySem.W.Frag} {H : Hp} : ∀ {m : KMap} {kvs : List (List Key × V)}, KVm K H kvs m → RepKV K H kvs (m.map encKV)
  | _, _, .nil => .nil
  | _, _, .cons q t => .cons q (KVm.rep t)
theorem KVm.look {K : PySem.W.Frag} {H : Hp} {k : List Key} {d : PyData} : ∀ {m : KMap} {kvs : List (List Key × V)}, KVm K H kvs m → lookM m k = some d → ∃ v, valV kvs k = some v ∧ Rep K H v d
  | _, _, .nil, h => by cases h
  | (k', d') :: m, _, .cons q t, h => by
    unfold lookM at h
    rw [List.find?_cons] at h
    by_cases e : k' = k
    · rw [decide_eq_true e] at h
      cases h
      exact ⟨_, valV_pos (p := (k', _)) e, q⟩
    · rw [decide_eq_false e] at h
      obtain ⟨v, h1, h2⟩ := KVm.look t h
      exact ⟨v, by rw [valV_neg (p := (k', _)) e]; exact h1, h2⟩
theorem KVm.any {K : PySem.W.Frag} {H : Hp} {k : List Key} : ∀ {m : KMap} {kvs : List (List Key × V)}, KVm K H kvs m → (kvs.any fun p => decide (p.1 = k)) = m.any fun p => decide (p.1 = k)
  | _, _, .nil => rfl
  | _, _, .cons q t => by rw [List.any_cons, List.any_cons, KVm.any t]
theorem KVm.repl {K : PySem.W.Frag} {H : Hp} {k : List Key} {v : V} {d : PyData} (q : Rep K H v d) : ∀ {m : KMap} {kvs : List (List Key × V)}, KVm K H kvs m → KVm K H (kvs.map fun p => if p.1 = k then (p.1, v) else p) (m.map fun p => if p.1 = k then (p.1, d) else p)
  | _, _, .nil => .nil
  | (k', _) :: _, _, .cons q' t => by
    rw [List.map_cons, List.map_cons]
    by_cases e : k' = k
    · simp only [e, if_true]
      exact .cons q (KVm.repl q t)
    · simp only [e, if_false]
      exact .cons q' (KVm.repl q t)
theorem KVm.snoc {K : PySem.W.Frag} {H : Hp} {k : List Key} {v : V} {d : PyData} (q : Rep K H v d) : ∀ {m : KMap} {kvs : List (List Key × V)}, KVm K H kvs m → KVm K H (kvs ++ [(k, v)]) (m ++ [(k, d)])
  | _, _, .nil => .cons q .nil
  | _, _, .cons q' t => .cons q' (KVm.snoc q t)
theorem KVm.put {K : PySem.W.Frag} {H : Hp} {k : List Key} {v : V} {d : PyData} (q : Rep K H v d) {m : KMap} {kvs : List (List Key × V)} (t : KVm K H kvs m) : KVm K H (putK kvs k v) (putM m k d) := by
  unfold putK putM
  rw [t.any]
  split
  · exact t.repl q
  · exact t.snoc q
theorem KVm.length {K : PySem.W.Frag} {H : Hp} : ∀ {m : KMap} {kvs : List (List Key × V)}, KVm K H kvs m → kvs.length = m.length
  | _, _, .nil => rfl
  | _, _, .cons _ t => by rw [List.length_cons, List.length_cons, KVm.length t]
section
variable {X : Cx} {a b e o : Expr} {α β δo : DTE} {ω : DTA} {pos p : Pos} {x : Str} {i : Nat}
theorem keys_kV : ∀ {vs : List V} {k : List Key} {K : PySem.W.Frag} {H : Hp}, Reps K H vs (k.map keyD) → vs = k.map kV
  | _, [], _, _, h => by cases h; rfl
  | _, k :: ks, _, _, h => by
    rw [List.map_cons] at h
    generalize hz : keyD k = z at h
    cases h with
    | cons q t =>
      rw [List.map_cons, keys_kV t]
      subst hz
      cases k with
      | inl i => cases (show Rep _ _ _ (.int i) from q); rfl
      | inr s => cases (show Rep _ _ _ (.str s) from q); rfl
/-- d[k], d data, k a tuple written there -/
@[simp] def dGetT (α : DTE) (ω : DTA) : DTE := fun ρ k => α ρ fun d ρ1 => ω ρ1 fun ks ρ2 => ∃ m key v, d = dictD m ∧ ks = key.map keyD ∧ key.length ≤ 1000 ∧ lookM m key = some v ∧ k v ρ2
theorem de_getT {q : Pos} {x1} (hu : X.A.units + 1 < cLine) (ha : PE X a (tD X.K α)) (hk : PA X es (tDA X.K ω)) : PE X (.Subscript a (.Tuple es x1 q) pos) (tD X.K (dGetT α ω)) :=
  PE.weak (pe_dget hu ha (pe_tup hk) (fun _ _ => rfl)) fun σ H Q h => by
    obtain ⟨B, S, ρ, k, rfl, r, h, c⟩ := h
    refine ⟨B, S, ρ, _, rfl, r, h, fun v d ρ1 S1 e1 r1 q1 h1 => ?_⟩
    refine ⟨B, S1, ρ1, _, rfl, r1, h1, fun vs ks ρ2 S2 e2 r2 q2 h2 => ?_⟩
    obtain ⟨m, key, z, rfl, rfl, hl, hz, hk⟩ := h2
    have ev := keys_kV q2
    subst ev
    refine ⟨by rw [List.length_map, sizeLine_eq]; omega, fun t ht => ?_⟩
    unfold dictD at q1
    generalize hm : m.map encKV = es at q1
    cases q1 with
    | @dT a kvs _ hd hr =>
      subst hm
      obtain ⟨u, hu1, hu2⟩ := (kvm_of hr).look hz
      have g := Grow.both (S := S2) (o := .tup (key.map kV)) r2.gr.dh ht
      refine ⟨a, u, rfl, ?_, c u z ρ2 ⟨_, _⟩ ((e1.trans e2).trans g.dd) (r2.grow g) (hu2.mono (e2.trans g.dd)) hk⟩
      rw [← hu1]
      exact DGet.t (g.hh _ _ (r2.gr.dh _ _ (e2 _ _ hd))) upd_same
    | fzt _ _ _ =>
      cases m with
      | nil => cases hm
      | cons p r => exact absurd (congrArg (fun d : List (PyData × PyData) => d.head?.map (·.1)) hm) nofun
    | scr hs =>
      cases m with
      | nil => cases hm
      | cons p m => obtain ⟨p1, p2⟩ := p; simp [encKV] at hm
theorem RepS.dT {K : PySem.W.Frag} {B S : Hs} {σ : St} {ρ : Env} (r : RepS K B S σ ρ) {i : Nat} {l : Addr} {es : List (PyData × PyData)} (e : ρ[i]? = some (.dT l es)) : σ[i]? = some (some (.ref l)) ∧ ∃ kvs, S.h l = some (.dT kvs) ∧ RepKV K S.d kvs es := by
  obtain ⟨h, q⟩ := r.slot e
  exact ⟨join_some h, q⟩
/-- d[k], d an own dict -/
@[simp] def dGetTO (i : Nat) (ω : DTA) : DTE := fun ρ k => (∃ l es, ρ[i]? = some (.dT l es)) ∧ ω ρ fun ks ρ2 => ∃ l m key v, ρ2[i]? = some (.dT l (m.map encKV)) ∧ ks = key.map keyD ∧ key.length ≤ 1000 ∧ lookM m key = some v ∧ k v ρ2
theorem de_getTO {q : Pos} {x1} (hu : X.A.units + 1 < cLine) (hx : PE X (.Name x p) (tVar i)) (hk : PA X es (tDA X.K ω)) : PE X (.Subscript (.Name x p) (.Tuple es x1 q) pos) (tD X.K (dGetTO i ω)) :=
  PE.weak (pe_dget hu hx (pe_tup hk) (fun _ _ => rfl)) fun σ H Q h => by
    obtain ⟨B, S, ρ, k, rfl, r, ⟨⟨l, es, el⟩, h⟩, c⟩ := h
    obtain ⟨hv, kvs, q2, q3⟩ := r.dT el
    refine ⟨_, hv, B, S, ρ, _, rfl, r, h, fun vs ks ρ2 S2 e2 r2 q2 h2 => ?_⟩
    obtain ⟨l', m, key, z, el', rfl, hl, hz, hk⟩ := h2
    have ev := keys_kV q2
    subst ev
    refine ⟨by rw [List.length_map, sizeLine_eq]; omega, fun t ht => ?_⟩
    obtain ⟨hv', kvs', q4, q5⟩ := r2.dT el'
    rw [hv] at hv'
    cases hv'
    obtain ⟨u, hu1, hu2⟩ := (kvm_of q5).look hz
    have g := Grow.both (S := S2) (o := .tup (key.map kV)) r2.gr.dh ht
    refine ⟨l, u, rfl, ?_, c u z ρ2 ⟨_, _⟩ (e2.trans g.dd) (r2.grow g) (hu2.mono g.dd) hk⟩
    rw [← hu1]
    exact DGet.t (g.hh _ _ q4) upd_same
/-- d[k] = v, d an own dict -/
@[simp] def dPutTO (i : Nat) (α : DTE) (ω : DTA) : DTS := fun DD ρ => α ρ fun d ρ1 => (∃ l es, ρ1[i]? = some (.dT l es)) ∧ ω ρ1 fun ks ρ2 => ∃ l m key, ρ2[i]? = some (.dT l (m.map encKV)) ∧ ks = key.map keyD ∧ key.length ≤ 1000 ∧ m.length < 1000000 ∧ DD.nx (ρ2.set i (.dT l ((putM m key d).map encKV)))
theorem ds_putTO {q pos' : Pos} {x1} (hu : X.A.units + 1 < cLine) (hx : PE X (.Name x p) (tVar i)) (hk : PA X es (tDA X.K ω)) (he : PE X e (tD X.K α)) (hs : swapsWith e (some (.Subscript (.Name x p) (.Tuple es x1 q) pos')) pos.line X.env = pure false := by rfl) :
    PS X (.Assign [.Subscript (.Name x p) (.Tuple es x1 q) pos'] e pos) (tDS X.K (dPutTO i α ω)) :=
  PS.weak (ps_dput hu hx (pe_tup hk) he hs) fun D σ H h => by
    obtain ⟨B, S, ρ, DD, rfl, r, h, T⟩ := h
    refine ⟨B, S, ρ, _, rfl, r, h, fun v d ρ1 S1 e1 r1 q1 h1 => ?_⟩
    obtain ⟨⟨l, es, el⟩, h1⟩ := h1
    obtain ⟨hv, kvs, q2, q3⟩ := r1.dT el
    refine ⟨_, hv, B, S1, ρ1, _, rfl, r1, h1, fun vs ks ρ2 S2 e2 r2 q2 h2 => ?_⟩
    obtain ⟨l', m, key, el', rfl, hl, hm, hk⟩ := h2
    have ev := keys_kV q2
    subst ev
    refine ⟨by rw [List.length_map, sizeLine_eq]; omega, fun t ht => ?_⟩
    have g := Grow.both (S := S2) (o := .tup (key.map kV)) r2.gr.dh ht
    have r3 := r2.grow g
    obtain ⟨hv', kvs', q4, q5⟩ := r3.dT el'
    rw [hv] at hv'
    cases hv'
    have km := kvm_of q5
    refine ⟨l, _, rfl, DPut.t q4 upd_same (by rw [km.length, sizeLine_eq]; omega), ?_⟩
    exact T.nx _ ⟨_, upd _ l (.dT (putK kvs' key v))⟩ _ (r3.mutate (s' := .dT l ((putM m key d).map encKV)) el' (by simp [Slot.ads]) rfl ⟨(r3.slot el').1, _, upd_same, (km.put ((q1.mono e2).mono g.dd)).rep⟩) hk
/-- {} for such a dict -/
@[simp] def dNewT : DTF := fun ρ k => ∀ l, k (.dT l []) ρ
theorem df_newT : PE X (.Dict [] [] pos) (tDF X.K dNewT) := PE.weak pe_dnewT fun σ H Q h => by
  obtain ⟨B, S, ρ, k, rfl, r, h, c⟩ := h
  intro p hp
  have g := Grow.own (S := S) (o := .dT []) r.gr.dh hp
  refine c (.ref p) (.dT p []) ρ ⟨_, _⟩ g.dd (r.grow g) ⟨rfl, [], upd_same, .nil⟩ (fun a ha => ?_) (h p)
  have ha : a = p := by simpa [Slot.ads] using ha
  subst ha
  exact ⟨r.noAds hp, r.gr.dh.back hp, r.gr.hh.back hp⟩

/-! ### own dicts of which the keys alone are asked -/
theorem RepS.dK {K : PySem.W.Frag} {B S : Hs} {σ : St} {ρ : Env} (r : RepS K B S σ ρ) {i : Nat} {l : Addr} {ks : List Key} (e : ρ[i]? = some (.dK l ks)) : σ[i]? = some (some (.ref l)) ∧ S.h l = some (.dK (ks.map fun k => (k, .bl true))) := by
  obtain ⟨h, q⟩ := r.slot e
  exact ⟨join_some h, q⟩
def hasK (ks : List Key) (k : Key) : Bool := ks.any fun j => decide (j = k)
theorem valK_some (k : Key) (ks : List Key) : (valV (ks.map fun k => (k, V.bl true)) k).isSome = hasK ks k := by
  rw [← valV_any, List.any_map]
  rfl
theorem rep_key {K : PySem.W.Frag} {H : Hp} {v : V} {k : Key} (q : Rep K H v (keyD k)) : v = kV k := by
  cases k with
  | inl i => cases (show Rep K H v (.int i) from q); rfl
  | inr s => cases (show Rep K H v (.str s) from q); rfl
@[simp] def dInK (i : Nat) (β : DTE) : DTE := fun ρ k => β ρ fun y ρ1 => ∃ l ks key, ρ1[i]? = some (.dK l ks) ∧ y = keyD key ∧ k (.bool (hasK ks key)) ρ1
@[simp] def dNotInK (i : Nat) (β : DTE) : DTE := fun ρ k => β ρ fun y ρ1 => ∃ l ks key, ρ1[i]? = some (.dK l ks) ∧ y = keyD key ∧ k (.bool (!hasK ks key)) ρ1
theorem dt_inK (hu : X.A.units + 1 < cLine) (hb : PE X b (tD X.K β)) (hx : PE X (.Name x p) (tVar i)) (hm : behindInMarks .In (.Name x p) = false := by rfl) : PT X (.Compare b [.In] [.Name x p] pos) (tDT X.K (dTst (dInK i β))) :=
  PT.weak (pt_cmp (pc_din hu hb hx) hm) (lift_tst fun σ H Q h => by
    obtain ⟨B, S, ρ, k, rfl, r, h, c⟩ := h
    refine ⟨B, S, ρ, _, rfl, r, h, fun v y ρ1 S1 e1 r1 q1 h1 => ?_⟩
    obtain ⟨l, ks, key, el, rfl, h1⟩ := h1
    obtain ⟨hv, q2⟩ := r1.dK el
    obtain rfl := rep_key q1
    refine ⟨_, hv, l, _, rfl, DGet.k q2, ?_⟩
    rw [valK_some]
    exact c _ _ ρ1 S1 e1 r1 (.bl _) h1)
theorem dt_notInK (hu : X.A.units + 1 < cLine) (hb : PE X b (tD X.K β)) (hx : PE X (.Name x p) (tVar i)) (hm : behindInMarks .NotIn (.Name x p) = false := by rfl) : PT X (.Compare b [.NotIn] [.Name x p] pos) (tDT X.K (dTst (dNotInK i β))) :=
  PT.weak (pt_cmp (pc_dnotin hu hb hx) hm) (lift_tst fun σ H Q h => by
    obtain ⟨B, S, ρ, k, rfl, r, h, c⟩ := h
    refine ⟨B, S, ρ, _, rfl, r, h, fun v y ρ1 S1 e1 r1 q1 h1 => ?_⟩
    obtain ⟨l, ks, key, el, rfl, h1⟩ := h1
    obtain ⟨hv, q2⟩ := r1.dK el
    obtain rfl := rep_key q1
    refine ⟨_, hv, l, _, rfl, DGet.k q2, ?_⟩
    rw [valK_some]
    exact c _ _ ρ1 S1 e1 r1 (.bl _) h1)
/-- d[y] = True, y new -/
@[simp] def dPutK (i : Nat) (β : DTE) : DTS := fun DD ρ => (∃ l ks, ρ[i]? = some (.dK l ks)) ∧ β ρ fun y ρ1 => ∃ l ks key, ρ1[i]? = some (.dK l ks) ∧ y = keyD key ∧ hasK ks key = false ∧ ks.length < 1000000 ∧ DD.nx (ρ1.set i (.dK l (ks ++ [key])))
theorem ds_putK {pos' : Pos} {j : Nat} {q : Pos} (hu : X.A.units + 1 < cLine) (hx : PE X (.Name x p) (tVar i)) (hb : PE X b (tD X.K β)) (hs : swapsWith (.Constant (.bool true) j q) (some (.Subscript (.Name x p) b pos')) pos.line X.env = pure false := by rfl) :
    PS X (.Assign [.Subscript (.Name x p) b pos'] (.Constant (.bool true) j q) pos) (tDS X.K (dPutK i β)) :=
  PS.weak (ps_dput hu hx hb pe_bl hs) fun D σ H h => by
    obtain ⟨B, S, ρ, DD, rfl, r, ⟨⟨l, ks, el⟩, h⟩, T⟩ := h
    obtain ⟨hv, q2⟩ := r.dK el
    refine ⟨_, hv, B, S, ρ, _, rfl, r, h, fun v y ρ1 S1 e1 r1 q1 h1 => ?_⟩
    obtain ⟨l', ks', key, el', rfl, hn, hz, h1⟩ := h1
    obtain ⟨hv', q4⟩ := r1.dK el'
    rw [hv] at hv'
    cases hv'
    obtain rfl := rep_key q1
    refine ⟨l, _, rfl, DPut.k q4 (by rw [List.length_map, sizeLine_eq]; omega), ?_⟩
    have hnone : valV (ks'.map fun k => (k, V.bl true)) key = none := by
      have := valK_some key ks'
      rw [hn] at this
      exact Option.isNone_iff_eq_none.mp (by rw [← Option.not_isSome, this]; rfl)
    rw [putK_new _ hnone]
    refine T.nx _ ⟨S1.d, _⟩ _ (r1.mutate (s' := .dK l (ks' ++ [key])) el' (by simp [Slot.ads]) rfl ⟨(r1.slot el').1, ?_⟩) h1
    rw [List.map_append]
    exact upd_same
/-- {e: True} -/
@[simp] def dNewK (β : DTE) : DTF := fun ρ k => β ρ fun y ρ1 => ∃ key, y = keyD key ∧ ∀ l, k (.dK l [key]) ρ1
end
end DL
end
section
set_option Elab.async false
set_option maxRecDepth 100000
namespace DL
open PySem L2 PySem.Spec PyProof.Rows

/-! ### enumerate(t), t a tuple -/
theorem new_enumT (l : Addr) (items : Array Value) :
    Meets (Builtin.«enumerate.__new__» ⟨[.type "enumerate", .ref l], []⟩) (fun _ R s => s.heap.IsTuple l items ∧
      R (.ok (.ret (.ref (s.heap.objs.size + 1)))) { s with heap := (s.heap.push { cls := .type "tuple_iterator", data := .fields #[.ref l, .int 0 0] }).push { cls := .type "enumerate", data := .fields #[.none, .bool false, .ref s.heap.objs.size, rawInt 0, .none, .none] } }) :=
  .of_wp fun prog w A R s h => by
    obtain ⟨hp, g, d, tk, os⟩ := s
    obtain ⟨hl, h⟩ := h
    have hsub := sub_enumerate
    have hz : (hp.push { cls := .type "tuple_iterator", data := .fields #[.ref l, .int 0 0] }).objs.size = hp.objs.size + 1 := Heap.size_push ..
    rw [← hz] at h
    wp_walk using wpAny_pyIter_tuple hl
    refine wpAny_stack_any fun st => wpAny_pure ?_
    split
    · rename_i c _ _ _ _ _
      cases (c == Value.type "enumerate")
      · wp_walk using wpAny_pyIter_tuple hl
        exact ⟨_, rfl, h⟩
      · wp_walk using wpAny_pyIter_tuple hl
        exact ⟨_, rfl, h⟩
    · wp_walk using wpAny_pyIter_tuple hl
      exact ⟨_, rfl, h⟩
section
variable {prog : Program} {w : World} {A : Around} {E : Value → Shared → Prop} {s : Shared}
theorem call_enumT {l : Addr} {items : Array Value} {Q : Value → Shared → Prop} (hl : s.heap.IsTuple l items)
    (h : ∀ h', IsEnum h' (s.heap.objs.size + 1) s.heap.objs.size 0 .none → h'.IsTupleIter s.heap.objs.size l 0 → (∀ b o, s.heap.get? b = some o → h'.get? b = some o) → Q (.ref (s.heap.objs.size + 1)) { s with heap := h' }) :
    wpAny (model prog w) A (call (.type "enumerate") [.ref l]) Q E s := by
  refine callType_new F.called_enumerate (by decide) (F.typeCall_enumerate_1 _) (F.newCall_enumerate_1 _) (fun obj => F.args_object_init_2 obj _) F.entry_enumerate_new (new_enumT l items) ⟨hl, ?_⟩
  have hz : (s.heap.push { cls := .type "tuple_iterator", data := .fields #[.ref l, .int 0 0] }).objs.size = s.heap.objs.size + 1 := Heap.size_push ..
  have he : IsEnum ((s.heap.push { cls := .type "tuple_iterator", data := .fields #[.ref l, .int 0 0] }).push { cls := .type "enumerate", data := .fields #[.none, .bool false, .ref s.heap.objs.size, rawInt 0, .none, .none] }) (s.heap.objs.size + 1) s.heap.objs.size 0 .none := by
    have q := Heap.get?_push_size (s.heap.push { cls := .type "tuple_iterator", data := .fields #[.ref l, .int 0 0] }) (o := { cls := .type "enumerate", data := .fields #[.none, .bool false, .ref s.heap.objs.size, rawInt 0, .none, .none] }) rfl
    rw [hz] at q
    exact q
  exact ⟨⟨_, he, rfl⟩, h _ he ⟨_, Heap.get?_push_of_some _ (Heap.get?_push_size _ rfl), rfl, rfl⟩ fun b o x => Heap.get?_push_of_some _ (Heap.get?_push_of_some _ x)⟩
end
/-- the tuple at a, its items with their numbers in new pairs -/
def ItE (K : PySem.W.Frag) (a : Addr) (xs : List V) : It :=
  ⟨fun i H => SqT K H a xs ∧ i < xs.length, fun i H v H' => ∃ T x, v = .ref T ∧ H T = none ∧ H' = upd H T (.tup [.int (i : Nat), x]) ∧ xs[i]? = some x, fun i H => SqT K H a xs ∧ xs.length ≤ i⟩
theorem turn_enumT {P : Program} {w : World} {K : PySem.W.Frag} {elts : List Expr} {kk : Nat} {tpos : Pos} (a e it : Addr) (xs : List V) (items : Array Value) (hla : a ≠ it) (hle : a ≠ e) (hne : e ≠ it) :
    Turn P w K (.Tuple elts kk tpos) (ItE K a xs) [e, it] e (fun i h => (∃ old, IsEnum h e it ((i : Nat) : Int) old) ∧ h.IsTupleIter it a i) where
  mem := by simp
  obj := fun i h st b hb => by
    obtain ⟨⟨old, he⟩, o, ho, hc, hd⟩ := st
    rcases (show b = e ∨ b = it by simpa using hb) with z | z
    · rw [z]
      exact ⟨_, he, fun v q => nomatch q⟩
    · rw [z]
      exact ⟨o, ho, fun v q => by rw [hd] at q; cases q⟩
  keep := fun i h h' st k => ⟨st.1.elim fun old he => ⟨old, k e (by simp) _ he⟩, st.2.at fun o q => k it (by simp) o q⟩
  item := by
    intro X hP hw hK hc i pins s σ H E I hf st hg
    subst hP hw hK
    obtain ⟨⟨old, he⟩, hit⟩ := st
    obtain ⟨hq, hi⟩ := hg
    obtain ⟨its, rv, p, hz⟩ := I.tuple hq
    have D := Draws.tuple (prog := X.prog) (w := X.w) (A := X.A.in1) (show X.A.in1.handled = none from I.ok.hd hc) it a hla its.toArray
    have hel : e < s.heap.objs.size := Heap.lt_size he
    have hlen := rv.length
    refine wpAny_pyNext_enum_itemD D he ⟨hit, p⟩ (by simpa using (by omega : i < its.length)) hne (by simp [hne, Ne.symm hle]) fun x h' tk hx ho st' hT hsz hk => ?_
    have hx' : its[i]? = some x := by simpa using hx
    obtain ⟨y, hy, ry⟩ : ∃ y, xs[i]? = some y ∧ RelV y x := by
      have hy : xs[i]? = some xs[i] := List.getElem?_eq_getElem hi
      obtain ⟨u, h1, h2⟩ := rv.get hy
      rw [hx'] at h1
      cases h1
      exact ⟨_, hy, h2⟩
    refine ⟨_, rfl, wpAny_letOwnedTupleGo_enum (s := { s with heap := h', toks := tk + 1 }) ho fun h'' he' sb => ?_⟩
    have hT2 : h''.get? s.heap.objs.size = some { cls := .type "tuple", data := .seq #[.int i tk, x] } := (sb.2 _ (Nat.ne_of_gt hel)).trans hT
    have new : ObjOk X.prog X.w (upd H s.heap.objs.size (.tup [.int (i : Nat), y])) h'' s.heap.objs.size (.tup [.int (i : Nat), y]) :=
      ⟨by show 2 ≤ sizeLine; decide, [.int i tk, x], .cons ⟨_, rfl⟩ (.cons ry .nil), ⟨_, hT2, rfl, _, rfl⟩⟩
    have I1 : L2.Inv X pins σ (upd H s.heap.objs.size (.tup [.int (i : Nat), y])) { s with heap := h'', toks := tk + 1 } :=
      I.turnedNew (ch := [e, it]) (fun b ob hb q => (sb.2 b (fun z => hb (by simp [z]))).trans (hk b ob (fun z => hb (by simp [z])) (fun z => hb (by simp [z])) q)) hf (Nat.le_refl _) new
    refine ⟨.ref s.heap.objs.size, _, I1, rfl, ⟨_, y, rfl, I.hok.fresh (Nat.le_refl _), rfl, hy⟩, ⟨⟨x, ?_⟩, st'.1.at fun o q => (sb.2 it (Ne.symm hne)).trans q⟩, fun b hb => ?_⟩
    · have e1 : ((i + 1 : Nat) : Int) = (i : Int) + 1 := by omega
      rw [e1]
      exact he'
    · have hb' : b < s.heap.objs.size := by
        rcases (show b = e ∨ b = it by simpa using hb) with z | z
        · rw [z]
          exact hel
        · rw [z]
          obtain ⟨o, ho, _⟩ := hit
          exact Heap.lt_size ho
      rw [upd_ne (Nat.ne_of_lt hb')]
      exact (hf b hb).1
  done := by
    intro X hP hw hK hc i pins s σ H E I hf st hg
    subst hP hw hK
    obtain ⟨⟨old, he⟩, hit⟩ := st
    obtain ⟨hq, hi⟩ := hg
    obtain ⟨its, rv, p, hz⟩ := I.tuple hq
    have hlen := rv.length
    have hT : s.TypeIs (.ref e) "enumerate" := ⟨_, he, rfl⟩
    have hh : X.A.in1.handled = none := I.ok.hd hc
    obtain ⟨f0, f1, f2, f3, f4, f5⟩ := hf it (by simp)
    unfold pyNext
    refine wpAny_bind (wpAny_attempt (wpAny_callSpecial?_slot (name := Str.ofString "__next__") hT F.slot_enumerate_next (wpAny_call_entry F.slot_enumerate_next hT F.entry_enumerate_next ?q (F.args_enumerate_next_1 _))))
    case q =>
      show wpAny _ _ (field (.ref e) 2 >>= _) _ _ _
      refine wpAny_bind (wpAny_field he rfl (x := .ref it) rfl (wpAny_bind (wpAny_nextOf_tuple_end hh hit p (by simp; omega) fun h' x eb hx => ?_)))
      obtain ⟨o, ho, hc'⟩ := hx
      exact wpAny_bind (wpAny_isInstance (T := "StopIteration") (b := true) ⟨o, ho, hc'⟩ isSubtype_stop (wpAny_pure ⟨rfl, I.turned (t' := s.toks) (fun b o hb q => eb b o hb q) f0 f1 f3 f4 f5⟩))
  self := fun A i s Q E st h => by
    obtain ⟨⟨old, he⟩, _⟩ := st
    exact wpAny_pyIter_enum he h
/-- for i, x in enumerate(t) -/
def iEnT (K : PySem.W.Frag) (ta : TA) : TI := fun σ H R => ta σ H fun vs H1 => ∃ a xs, vs = [.ref a] ∧ SqT K H1 a xs ∧ R (ItE K a xs) H1
theorem pi_enumT {X : Cx} {e : Expr} {ta : TA} {p pos tpos : Pos} {elts : List Expr} {kk : Nat} (hg : Gl X "enumerate") (hm : X.mg "enumerate" = none) (ha : PA X [e] ta) (hs : starEach [e] X.env = [(false, eval e X.env)] := by rfl) :
    PI X (.Tuple elts kk tpos) (.Call (.Name "enumerate" p) [e] [] pos) (iEnT X.K ta) := by
  refine ⟨fun pins s σ H R I h => ?_⟩
  refine Call_ (ld_blt I hg hm boot_enumerate (PyProof.Rows.callWith_type1 (thn (ha.run pos pins s σ H _ I h) fun us s1 ⟨vs, H1, I1, r1, q1⟩ => ?_) hs rfl))
  obtain ⟨a, xs, ex, hq, q⟩ := q1
  subst ex
  cases r1 with
  | cons r rr =>
    cases rr
    cases r
    obtain ⟨its, rv, p', hz⟩ := I1.tuple hq
    have hal : a < s1.heap.objs.size := p'.lt
    refine call_enumT (show s1.heap.IsTuple a its.toArray from p') fun h' he hit hk => wpAny_pyIter_enum he ?_
    have I2 : L2.Inv X pins σ H1 { s1 with heap := h' } := I1.kept (t' := s1.toks) hk
    refine ⟨s1.heap.objs.size + 1, [s1.heap.objs.size + 1, s1.heap.objs.size], _, _, H1, rfl, I2, turn_enumT a (s1.heap.objs.size + 1) s1.heap.objs.size xs its.toArray (Nat.ne_of_lt hal) (Nat.ne_of_lt (Nat.lt_succ_of_lt hal)) (Nat.succ_ne_self _), ⟨⟨.none, he⟩, hit⟩, fun b hb => ?_, q⟩
    have hle : s1.heap.objs.size ≤ b := by
      rcases (show b = s1.heap.objs.size + 1 ∨ b = s1.heap.objs.size by simpa using hb) with z | z
      · rw [z]
        exact Nat.le_add_right _ _
      · rw [z]
        exact Nat.le_refl _
    exact I1.fpOk hle (I1.hok.fresh hle)
def enumD (xs : List PyData) : List PyData := xs.zipIdx.map fun p => .tuple [.int (p.2 : Nat), p.1]
theorem enumD_get (xs : List PyData) (i : Nat) : (enumD xs)[i]? = (xs[i]?).map fun x => .tuple [.int (i : Nat), x] := by
  unfold enumD
  rw [List.getElem?_map, List.getElem?_zipIdx]
  cases xs[i]? <;> simp
theorem walk_enum {K : PySem.W.Frag} {d : Hp} {p : Addr} {vs : List V} {xs : List PyData} (hs : SqT K d p vs) (hr : Reps K d vs xs) : Walk K d (ItE K p vs) (enumD xs) := by
  intro T h1 h2 i
  have hs' : SqT K T.h p vs := h2.sqT (h1.sqT hs)
  have hl : (enumD xs).length = vs.length := by rw [hr.length]; simp [enumD]
  refine ⟨fun h => ⟨hs', by rw [← hl]; exact h⟩, fun x hx => ?_⟩
  rw [enumD_get, Option.map_eq_some_iff] at hx
  obtain ⟨y, hy, rfl⟩ := hx
  obtain ⟨v, hv, q⟩ := hr.get hy
  refine ⟨⟨hs', (List.getElem?_eq_some_iff.mp hv).1⟩, fun u H' yl => ?_⟩
  obtain ⟨t, w, rfl, ht, rfl, hw⟩ := yl
  rw [hv] at hw
  cases hw
  have g := Grow.both (S := T) (o := .tup [.int (i : Nat), v]) h2 ht
  exact ⟨⟨_, _⟩, rfl, g, .tup (SqT.of upd_same) (.cons (.int _) (.cons (q.mono (h1.trans g.dd)) .nil))⟩
@[simp] def iEn (ω : DTA) : DTA := fun ρ k => ω ρ fun ds ρ1 => ∃ xs, ds = [.tuple xs] ∧ k (enumD xs) ρ1
theorem di_enum {X : Cx} {e : Expr} {ω : DTA} {p pos tpos : Pos} {elts : List Expr} {kk : Nat} (hg : Gl X "enumerate") (hm : X.mg "enumerate" = none) (ha : PA X [e] (tDA X.K ω)) (hs : starEach [e] X.env = [(false, eval e X.env)] := by rfl) :
    PI X (.Tuple elts kk tpos) (.Call (.Name "enumerate" p) [e] [] pos) (tDI X.K (iEn ω)) := PI.weak (pi_enumT hg hm ha hs) fun σ H R h => by
  obtain ⟨B, S, ρ, k, rfl, r, h, c⟩ := h
  refine ⟨B, S, ρ, _, rfl, r, h, fun vs ds ρ1 S1 e1 r1 q1 h1 => ?_⟩
  obtain ⟨xs, rfl, h1⟩ := h1
  cases q1 with
  | cons q qs =>
    cases qs
    cases q with
    | tup hs hr => exact ⟨_, _, rfl, r1.gr.dh.sqT hs, c _ ρ1 S1 _ e1 r1 (walk_enum hs hr) h1⟩

/-! ### sorted(t), t a tuple of ints -/
def rSortT (K : PySem.W.Frag) : List V → Hp → VK → Prop := fun vs H Q => ∃ (a : Addr) (ns : List Int), vs = [V.ref a] ∧ SqT K H a (ns.map V.int) ∧
  ∀ (ns' : List Int) (p : Addr), ns'.Perm ns → ns'.Pairwise (· ≤ ·) → H p = none → Q (.ref p) (upd H p (.lst (ns'.map V.int)))
theorem cr_sortT {X : Cx} : CallR X (.builtin "sorted") (rSortT X.K) := by
  intro pins s σ H vs us Q I r h
  obtain ⟨a, ns, rfl, hs, q⟩ := h
  obtain ⟨its, rv, ht, hz⟩ := I.tuple hs
  rw [Vals.ref1 r]
  have hi := rv.ints
  have hlen := rv.length
  obtain ⟨o, ho, hc, n, hd⟩ := ht
  refine Calls.call_function_entry kind_sorted plain_sorted entry_sorted (args_sorted1 _) ?_
  unfold Builtin.«sorted»
  refine wpAny_bind (m := checkCount "sorted" 1 1 _) (wpAny_pure ?_)
  refine wpAny_bind (wpAny_collect_seq a (T := "tuple") (items := its.toArray) (.inr rfl) ho hc hd (fun h1 k1 => ?_) (by rw [List.size_toArray]; omega))
  have e1 : its.toArray.toList = its := by simp
  rw [e1]
  refine wpAny_bind (wpAny_newList ?_ (by omega))
  have hL : (h1.push (seqObj "list" its.toArray 0)).get? h1.objs.size = some (seqObj "list" its.toArray 0) := Heap.get?_push_size _ rfl
  refine wpAny_bind (wpAny_holding (wpAny_call_entry slot_list_sort ⟨_, hL, rfl⟩ entry_list_sort (SrtO.list_sort_ord (vs := its) SrtO.swo_int hL (by omega) (fun h2 => SrtO.ints_sortable hi h2) fun out h2 h3 => ⟨_, rfl, ?_⟩) (args_list_sort _)))
  obtain ⟨m1, m2, m3⟩ := SrtO.ints_out hi h2 h3
  obtain ⟨ep, he'⟩ := sortedHeap_at (vs := its) (out := out.toArray) hL
  have hl2 : ((out.map SrtO.iv).map V.int).length ≤ sizeLine := by
    rw [List.length_map, m2.length_eq]
    rw [List.length_map] at hz
    exact hz
  have I1 : L2.Inv X pins σ H { s with heap := h1 } := I.kept (t' := s.toks) k1
  refine wpAny_pure ⟨_, rfl, ⟨.ref _, upd H h1.objs.size (.lst ((out.map SrtO.iv).map V.int)), I1.laid (t' := s.toks) (fun b u hb => ?_) (Nat.le_refl _) ⟨hl2, out, ep, vals_of_ints m1, he'⟩, rfl, q _ _ m2 m3 (I1.hok.fresh (Nat.le_refl _))⟩⟩
  have hlt := Heap.lt_size hb
  rw [sortedHeap_old (Nat.ne_of_lt hlt) (by rw [size_push']; exact Nat.lt_succ_of_lt hlt)]
  exact Heap.get?_push_of_some _ hb
end DL
end
section
set_option Elab.async false
set_option maxRecDepth 100000
namespace DL
open PySem L2

section
variable {X : Cx} {a b e : Expr} {es : List Expr} {α β : DTE} {ω : DTA} {pos p q : Pos} {x : Str}
/-! ### built-in calls -/
def rLenS (K : PySem.W.Frag) : List V → Hp → VK → Prop := fun xs H Q => ∃ p ys, xs = [.ref p] ∧ (SqL K H p ys ∨ SqT K H p ys) ∧ Q (.int ys.length) H
@[simp] def dLen : DRn := fun xs k => ∃ d ds, xs = [d] ∧ items d = some ds ∧ k (.int ds.length)
theorem l_len {K : PySem.W.Frag} : LiftN K (rLenS K) dLen := by
  rintro S vs xs k Q e q ⟨d, ds, rfl, hi, hk⟩ o
  cases q with
  | cons q qs =>
    cases qs
    cases d with
    | tuple es =>
      cases hi
      cases q with
      | tup hs hr =>
        refine ⟨_, _, rfl, .inr (e.sqT hs), ?_⟩
        rw [hr.length]
        exact o.mk e (.int _) hk
    | list es =>
      cases hi
      cases q with
      | lst hs hr =>
        refine ⟨_, _, rfl, .inl (SqL.of (e _ _ hs)), ?_⟩
        rw [hr.length]
        exact o.mk e (.int _) hk
    | none => cases hi
    | bool _ => cases hi
    | int _ => cases hi
    | str _ => cases hi
    | dict _ => cases hi
theorem de_len (hg : Gl X "len") (hm : X.mg "len" = none) (ha : PA X (e :: es) (tDA X.K ω))
    (he : starEach (e :: es) X.env = (false, eval e X.env) :: starEach es X.env := by rfl) (hpl : (backTo pos (starEach es X.env)).any (·.1) = false := by rfl) : PE X (.Call (.Name "len" p) (e :: es) [] pos) (tD X.K (dCB dLen ω)) :=
  de_callB call_len_seq l_len hg hm (by decide +kernel) ha (by decide) (by decide) he hpl
/-- tuple(a list) -/
@[simp] def dTupL : DRn := fun xs k => ∃ ds, xs = [.list ds] ∧ k (.tuple ds)
theorem l_tupL {K : PySem.W.Frag} : LiftN K (fun xs H Q => ∃ p ys, xs = [.ref p] ∧ ((SqL K H p ys ∧ ∀ l, H l = none → Q (.ref l) (upd H l (.tup ys))) ∨ (SqT K H p ys ∧ Q (.ref p) H))) dTupL := by
  rintro S vs xs k Q e q ⟨ds, rfl, hk⟩ o
  cases q with
  | cons q qs =>
    cases qs
    cases q with
    | @lst a us _ hs hr =>
      refine ⟨a, us, rfl, .inl ⟨SqL.of (e _ _ hs), fun l hl => ?_⟩⟩
      have g := Grow.both (S := S) (o := .tup us) e hl
      exact o _ _ _ g (.tup (SqT.of upd_same) (hr.mono g.dd)) hk
theorem de_tupL (hg : Gl X "tuple") (hm : X.mg "tuple" = none) (ha : PA X (e :: es) (tDA X.K ω))
    (he : starEach (e :: es) X.env = (false, eval e X.env) :: starEach es X.env := by rfl) (hpl : (backTo pos (starEach es X.env)).any (·.1) = false := by rfl) : PE X (.Call (.Name "tuple" p) (e :: es) [] pos) (tD X.K (dCB dTupL ω)) :=
  de_callTy call_tuple_of l_tupL hg hm (by decide +kernel) ha (by decide) (by decide) he hpl
/-- list(a list), its own -/
@[simp] def dListF (α : DTE) : DTF := fun ρ k => α ρ fun d ρ1 => ∃ ds, items d = some ds ∧ ∀ l, k (.lst l ds) ρ1
theorem df_list (hg : Gl X "list") (hm : X.mg "list" = none) (ha : PE X e (tD X.K α)) (hs : starEach [e] X.env = (false, eval e X.env) :: starEach [] X.env := by rfl) (hpl : (backTo pos (starEach [] X.env)).any (·.1) = false := by rfl) :
    PE X (.Call (.Name "list" p) [e] [] pos) (tDF X.K (dListF α)) := PE.weak (pe_callTy call_list_of hg hm (by decide +kernel) (pa_cons ha pa_nil hs) (by decide) (by decide) hs hpl) fun σ H Q h => by
  obtain ⟨B, S, ρ, k, rfl, r, h, c⟩ := h
  refine ⟨B, S, ρ, _, rfl, r, h, fun v d ρ1 S1 e1 r1 q1 h1 => ?_⟩
  obtain ⟨ds, hi, hk⟩ := h1
  have key : ∀ (us : List V) (hr : Reps X.K S1.d us ds) (l : Addr), S1.h l = none → Q (.ref l) (upd S1.h l (.lst us)) := fun us hr l hl => by
    have g := Grow.own (S := S1) (o := .lst us) r1.gr.dh hl
    refine c (.ref l) (.lst l ds) ρ1 ⟨_, _⟩ (e1.trans g.dd) (r1.grow g) ⟨rfl, us, upd_same, hr.mono g.dd⟩ (fun a ha => ?_) (hk l)
    have ha : a = l := by simpa [Slot.ads] using ha
    subst ha
    exact ⟨r1.noAds hl, r1.gr.dh.back hl, r1.gr.hh.back hl⟩
  cases d with
  | tuple es =>
    cases hi
    cases q1 with
    | tup hs hr => exact ⟨_, _, rfl, .inr (r1.gr.dh.sqT hs), key _ hr⟩
  | list es =>
    cases hi
    cases q1 with
    | lst hs hr => exact ⟨_, _, rfl, .inl (SqL.of (r1.gr.dh _ _ hs)), key _ hr⟩
  | none => cases hi
  | bool _ => cases hi
  | int _ => cases hi
  | str _ => cases hi
  | dict _ => cases hi
/-- sorted(a list or tuple of ints) -/
def dSorted : DRn := fun xs k => ∃ d, ∃ ns : List Int, xs = [d] ∧ items d = some (ns.map .int) ∧ ∀ ns' : List Int, ns'.Perm ns → ns'.Pairwise (· ≤ ·) → k (.list (ns'.map .int))
def rSortB (K : PySem.W.Frag) : List V → Hp → VK → Prop := fun vs H Q => rSortedI K vs H Q ∨ rSortT K vs H Q
theorem cr_sortB : CallR X (.builtin "sorted") (rSortB X.K) := CallR.or cr_sortedI cr_sortT
theorem l_sorted {K : PySem.W.Frag} : LiftN K (rSortB K) dSorted := by
  rintro S vs xs k Q e q ⟨d, ns, rfl, hi, hk⟩ o
  cases q with
  | cons q qs =>
    cases qs
    have key : ∀ (ns' : List Int) (l : Addr), ns'.Perm ns → ns'.Pairwise (· ≤ ·) → S.h l = none → Q (.ref l) (upd S.h l (.lst (ns'.map V.int))) := fun ns' l h1 h2 hl => by
      have g := Grow.both (S := S) (o := .lst (ns'.map V.int)) e hl
      exact o _ _ _ g (.lst upd_same (Reps.of_ints ns')) (hk ns' h1 h2)
    cases d with
    | tuple es =>
      cases hi
      cases q with
      | tup hs hr =>
        obtain rfl := hr.ints
        exact .inr ⟨_, ns, rfl, e.sqT hs, key⟩
    | list es =>
      cases hi
      cases q with
      | lst hs hr =>
        obtain rfl := hr.ints
        exact .inl ⟨_, ns, rfl, SqL.of (e _ _ hs), key⟩
    | none => cases hi
    | bool _ => cases hi
    | int _ => cases hi
    | str _ => cases hi
    | dict _ => cases hi
theorem de_sorted (hg : Gl X "sorted") (hm : X.mg "sorted" = none) (ha : PA X (e :: es) (tDA X.K ω))
    (he : starEach (e :: es) X.env = (false, eval e X.env) :: starEach es X.env := by rfl) (hpl : (backTo pos (starEach es X.env)).any (·.1) = false := by rfl) : PE X (.Call (.Name "sorted" p) (e :: es) [] pos) (tD X.K (dCB dSorted ω)) :=
  de_callB cr_sortB l_sorted hg hm (by decide +kernel) ha (by decide) (by decide) he hpl
/-- all(a list of bools) -/
@[simp] def dAll : DRn := fun xs k => ∃ bs : List Bool, xs = [.list (bs.map .bool)] ∧ k (.bool (bs.all id))
theorem l_all {K : PySem.W.Frag} : LiftN K (rAll K) dAll := by
  rintro S vs xs k Q e q ⟨bs, rfl, hk⟩ o
  cases q with
  | cons q qs =>
    cases qs
    generalize hz : bs.map PyData.bool = ds at q
    cases q with
    | lst hs hr =>
      subst hz
      obtain rfl := hr.bools
      exact ⟨_, bs, rfl, SqL.of (e _ _ hs), o.mk e (.bl _) hk⟩
theorem de_all (hc : X.calm = true) (hg : Gl X "all") (hm : X.mg "all" = none) (ha : PA X (e :: es) (tDA X.K ω))
    (he : starEach (e :: es) X.env = (false, eval e X.env) :: starEach es X.env := by rfl) (hpl : (backTo pos (starEach es X.env)).any (·.1) = false := by rfl) : PE X (.Call (.Name "all" p) (e :: es) [] pos) (tD X.K (dCB dAll ω)) :=
  de_callB (cr_all hc) l_all hg hm (by decide +kernel) ha (by decide) (by decide) he hpl
/-- max(i, j), int(i) -/
@[simp] def dMax : DRn := fun xs k => ∃ i j, xs = [.int i, .int j] ∧ k (.int (if j > i then j else i))
theorem l_max {K : PySem.W.Frag} : LiftN K (fun xs H Q => ∃ i j, xs = [.int i, .int j] ∧ Q (.int (if j > i then j else i)) H) dMax := by
  rintro S vs xs k Q e q ⟨i, j, rfl, hk⟩ o
  cases q with
  | cons q qs =>
    cases qs with
    | cons q' qs =>
      cases qs
      cases q
      cases q'
      exact ⟨i, j, rfl, o.mk e (.int _) hk⟩
theorem de_max (hc : X.calm = true) (hg : Gl X "max") (hm : X.mg "max" = none) (ha : PA X (e :: es) (tDA X.K ω))
    (he : starEach (e :: es) X.env = (false, eval e X.env) :: starEach es X.env := by rfl) (hpl : (backTo pos (starEach es X.env)).any (·.1) = false := by rfl) : PE X (.Call (.Name "max" p) (e :: es) [] pos) (tD X.K (dCB dMax ω)) :=
  de_callB (call_max2 hc) l_max hg hm (by decide +kernel) ha (by decide) (by decide) he hpl
@[simp] def dInt : DRn := fun xs k => (∃ i, xs = [.int i] ∧ k (.int i)) ∨ ∃ b, xs = [.bool b] ∧ k (.int (if b then 1 else 0))
theorem l_int {K : PySem.W.Frag} : LiftN K (fun xs H Q => (∃ i, xs = [.int i] ∧ Q (.int i) H) ∨ ∃ k, xs = [.bl k] ∧ Q (.int (if k then 1 else 0)) H) dInt := by
  rintro S vs xs k Q e q h o
  rcases h with ⟨i, rfl, hk⟩ | ⟨i, rfl, hk⟩
  · cases q with
    | cons q qs =>
      cases qs
      cases q
      exact .inl ⟨i, rfl, o.mk e (.int _) hk⟩
  · cases q with
    | cons q qs =>
      cases qs
      cases q
      exact .inr ⟨i, rfl, o.mk e (.int _) hk⟩
theorem de_intc (hg : Gl X "int") (hm : X.mg "int" = none) (ha : PA X (e :: es) (tDA X.K ω))
    (he : starEach (e :: es) X.env = (false, eval e X.env) :: starEach es X.env := by rfl) (hpl : (backTo pos (starEach es X.env)).any (·.1) = false := by rfl) : PE X (.Call (.Name "int" p) (e :: es) [] pos) (tD X.K (dCB dInt ω)) :=
  de_callTy call_int1 l_int hg hm (by decide +kernel) ha (by decide) (by decide) he hpl
/-- isinstance(x, T), T one of the built-in classes asked here -/
def tyD : PyData → String
  | .none => "NoneType"
  | .bool _ => "bool"
  | .int _ => "int"
  | .str _ => "str"
  | .list _ => "list"
  | .tuple _ => "tuple"
  | .dict _ => "dict"
@[simp] def dIsi (T : String) (α : DTE) : DTE := fun ρ k => α ρ fun d ρ1 => ∃ b, (∀ es, d ≠ .dict es) ∧ kitB (tyD d) T = some b ∧ k (.bool b) ρ1
theorem de_isi {T : String} (hg : Gl X "isinstance") (hm : X.mg "isinstance" = none) (ha : PE X e (tD X.K α)) (hb : PE X b (tC (.ty T))) (hs : starEach [e, b] X.env = (false, eval e X.env) :: starEach [b] X.env := by rfl)
    (hs2 : starEach [b] X.env = (false, eval b X.env) :: starEach [] X.env := by rfl) (hpl : (backTo pos (starEach [b] X.env)).any (·.1) = false := by rfl) : PE X (.Call (.Name "isinstance" p) [e, b] [] pos) (tD X.K (dIsi T α)) :=
  PE.weak (pe_callB call_isi hg hm (by decide +kernel) (pa_cons ha (pa_cons hb pa_nil hs2) hs) (by decide) (by decide) hs hpl) fun σ H Q h => by
    obtain ⟨B, S, ρ, k, rfl, r, h, c⟩ := h
    refine ⟨B, S, ρ, _, rfl, r, h, fun v d ρ1 S1 e1 r1 q1 h1 => ?_⟩
    obtain ⟨b, hn, hkit, hk⟩ := h1
    have fin : ∀ t, TyX X.K S1.h v (.type t) → kitB t T = some b → rIsi X.K [v, .ty T] S1.h Q := fun t ht hb => ⟨v, .ty T, _, _, b, rfl, .ty T, ht, kit_ty hb, c _ _ ρ1 S1 e1 r1 (.bl _) hk⟩
    cases q1 with
    | non => exact fin _ (.base .non) hkit
    | bl x => exact fin _ (.base (.bl x)) hkit
    | int x => exact fin _ (.base (.int x)) hkit
    | str x => exact fin _ (.base (.str x)) hkit
    | lst hs hr => exact fin _ (.base (.lst (r1.gr.dh _ _ hs))) hkit
    | tup hs hr =>
      rcases hs with (hs | ⟨o, hs⟩) | ⟨o, its, n, hk', hc, _⟩
      · exact fin _ (.base (.tup (r1.gr.dh _ _ hs))) hkit
      · exact fin _ (.fTuple (r1.gr.dh _ _ hs)) hkit
      · exact fin _ (.kTuple hk' hc) hkit
    | dT hs hr => exact absurd rfl (hn _)
    | scr hs => exact absurd rfl (hn _)
    | fzt _ _ _ => exact absurd rfl (hn _)
/-- t.index(x), x among the items -/
def rIxT (K : PySem.W.Frag) : V → List V → Hp → VK → Prop := fun x xs H Q => ∃ (a : Addr) (y : V) (d : PyData) (ds : List PyData) (j : Nat) (z : PyData), x = V.ref a ∧ xs = [y] ∧ Dp K H (V.ref a) (.tuple ds) ∧ Dp K H y d ∧
  SeqAt.shaped (.tuple ds) = true ∧ SeqAt.shaped d = true ∧ ds[j]? = some z ∧ PyData.eqv z d = true ∧ (∀ (m : Nat) (z' : PyData), m < j → ds[m]? = some z' → PyData.eqv z' d = false) ∧ Q (.int (j : Nat)) H
theorem mt_indexT (hu : X.A.units + 65 < cLine) : MtR X "tuple.index" (rIxT X.K) := by
  intro pins s σ H x xs v us Q I rx rxs h
  obtain ⟨a, y, d, ds, j, z, rfl, rfl, hl, hy, sl, sd, hz, hzj, hno, q⟩ := h
  cases rx
  cases rxs with
  | cons ry rt =>
    rename_i uy ut
    cases rt
    obtain ⟨bs, r1⟩ := Dp.reads I d y uy hy ry
    have hxs : PyData.canLayAll0 ds = true := by simpa [PyData.canLay0] using SeqAt.canLay_of_shaped sl
    have hroom : X.A.units + 1 + min (PyData.depthAll ds) d.depth < cLine := by
      have h1 := SeqAt.depth_of_shaped sd
      have h2 : min (PyData.depthAll ds) d.depth ≤ d.depth := Nat.min_le_right _ _
      omega
    cases hl with
    | tup hs ha =>
      obtain ⟨its, rv, ⟨⟨cls, dd, data, sls⟩, ho, hc, n, hdt⟩, hlen⟩ := I.tuple hs
      simp only at hc hdt
      subst hc hdt
      obtain ⟨as, h4⟩ := Dp.readsAll I ds _ its ha rv
      have hn : its.length = ds.length := SeqAt.ReadsAll.length ds its as h4
      have hmap : its.map (SeqAt.readOf s.heap) = ds := SeqAt.readsAll_map ds its as hxs h4
      have hjd : j < ds.length := (List.getElem?_eq_some_iff.mp hz).1
      have hjs : j < its.toArray.size := by rw [List.size_toArray]; omega
      have rd : ∀ (m : Nat) (hm : m < its.toArray.size) (z' : PyData), ds[m]? = some z' → SeqAt.readOf s.heap its.toArray[m] = z' := fun m hm z' hz' => by
        have hml : m < its.length := by simpa using hm
        rw [← hmap, List.getElem?_map, List.getElem?_eq_getElem hml] at hz'
        exact Option.some.inj hz'
      have gd : ∀ (m : Nat) (hm : m < its.toArray.size), its.toArray.getD m .none = its.toArray[m] := fun m hm => by
        rw [Array.getD, dif_pos hm]
        rfl
      have eqs := SeqAt.items_eqAt (vs := its.toArray) (show ReadsAll s.heap its.toArray.toList ds as from h4) r1 hxs (SeqAt.canLay_of_shaped sd) hroom
      refine call_meets PySem.F.slot_tuple_index ⟨_, ho, rfl⟩ PySem.F.entry_tuple_index (PySem.F.args_tuple_index_2 _ _)
        (SeqAt.tuple_index2_found a its.toArray n dd sls uy (fun m => PyData.eqv (SeqAt.readOf s.heap (its.toArray.getD m .none)) d) j hjs (Nat.zero_le _) hjs ?_ ?_) ⟨ho, fun m hm => ?_, ?_⟩
      · show PyData.eqv (SeqAt.readOf s.heap (its.toArray.getD j .none)) d = true
        rw [gd j hjs, rd j hjs z hz]
        exact hzj
      · intro m hm _ hmj
        have hz' : ds[m]? = some ds[m] := List.getElem?_eq_getElem (by omega)
        show PyData.eqv (SeqAt.readOf s.heap (its.toArray.getD m .none)) d = false
        rw [gd m hm, rd m hm _ hz']
        exact hno m _ hmj hz'
      · show SeqAt.EqAt _ _ _ _ (PyData.eqv (SeqAt.readOf s.heap (its.toArray.getD m .none)) d)
        rw [gd m hm]
        exact eqs _ (Array.getElem_mem hm)
      · exact ⟨.int (j : Nat), H, I.tok _, ⟨_, rfl⟩, q⟩
end
end DL
end
section
set_option Elab.async false
set_option maxRecDepth 100000
namespace DL
open PySem L2

/-! ### a def's body -/
/-- the slots at the entry -/
def env0 (n : Nat) (ss : List Slot) : Env := ss ++ List.replicate (n - ss.length) .no
theorem start_get {N : List Str} {vs : List V} {i : Nat} {v : V} (h : vs[i]? = some v) : (L2.start N vs)[i]? = some (some v) := by
  have hi : i < vs.length := (List.getElem?_eq_some_iff.mp h).1
  unfold L2.start
  rw [List.getElem?_append_left (by simpa using hi), List.getElem?_map, h]
  rfl
theorem env0_getD {n : Nat} {ss : List Slot} {i : Nat} : (env0 n ss).getD i .no = ss.getD i .no := by
  unfold env0
  rw [List.getD_eq_getElem?_getD, List.getD_eq_getElem?_getD]
  by_cases hi : i < ss.length
  · rw [List.getElem?_append_left hi]
  · rw [List.getElem?_append_right (by omega), List.getElem?_eq_none (l := ss) (by omega), List.getElem?_replicate]
    split <;> rfl
theorem reps_start {K : PySem.W.Frag} {S : Hs} {N : List Str} {vs : List V} {ds : List PyData} (hl : vs.length ≤ N.length) (e : Ex S.d S.h) (q : Reps K S.d vs ds) : RepS K S S (L2.start N vs) (env0 N.length (ds.map .dat)) := by
  have hn : ∀ i, ((env0 N.length (ds.map .dat)).getD i .no).ads = [] := fun i => by
    rw [env0_getD, List.getD_eq_getElem?_getD, List.getElem?_map]
    cases ds[i]? <;> rfl
  refine ⟨Grow.refl e, ?_, fun i => ?_, fun i j a ha => ?_, fun i a ha => ?_⟩
  · unfold L2.start env0
    rw [List.length_append, List.length_append, List.length_map, List.length_map, List.length_replicate, List.length_replicate, q.length]
  · rw [env0_getD, List.getD_eq_getElem?_getD, List.getElem?_map]
    cases hd : ds[i]? with
    | none => trivial
    | some d =>
      obtain ⟨v, hv, qv⟩ := q.get hd
      rw [start_get hv]
      exact ⟨v, rfl, qv⟩
  · rw [hn i] at ha
    cases ha
  · rw [hn i] at ha
    cases ha
theorem at_env {δ : DTS} {DD : DEnds} {ρ ρ' : Env} (e : ρ = ρ') (h : δ DD ρ') : δ DD ρ := e ▸ h
section
variable {P : Program} {w : World} {K : PySem.W.Frag} {mg : Str → Option Value} {base : Heap}
/-- what is known of a def of the text -/
def Df (K : PySem.W.Frag) (mg : Str → Option Value) (nm : Str) (ps : List Str) (st : Stmt) : Prop := ∃ f fd, Fun K nm nm st f fd ∧ Binds K fd ps [] ∧ mg nm = some (.ref f)
/-- where a def's body runs -/
abbrev bodyX (P : Program) (w : World) (K : PySem.W.Frag) (mg : Str → Option Value) (base : Heap) (N : List Str) (qual : Str) (st : Stmt) (f : Addr) (cdv : Value) (A : Around) (outer : List PySem.Env) (s : Shared) (H : Hp) (E : XK) : Cx :=
  (cxOf CX0 P w K mg base N qual (defScope st) f cdv A outer s H E).nox
/-- THE RULE for a def that changes nothing of its caller's -/
theorem ok_of {nm qual : Str} {ps N : List Str} {st : Stmt} {f : Addr} {fd : FuncData} {k : Nat} {φ : DRn} (F : Fun K nm qual st f fd) (S : FnScope N ps (defScope st)) (len : ∀ ds k, φ ds k → ds.length = ps.length)
    (body : ∀ (cdv : Value) (A : Around) (outer : List PySem.Env) (s : Shared) (H : Hp) (E : XK), Room k (bodyX P w K mg base N qual st f cdv A outer s H E).A →
      ∃ δ, PSs (bodyX P w K mg base N qual st f cdv A outer s H E) (defBody st) (tDS K δ) ∧ ∀ ds kk, φ ds kk → δ { nx := fun _ => kk .none, rt := fun d _ => kk d } (env0 N.length (ds.map .dat))) :
    FnOk P w K mg base CX0 (k + 1) f fd ps (spD K φ) := by
  have hpl : ps.length ≤ N.length := by
    have := congrArg List.length S.pre
    rw [List.length_take] at this
    omega
  refine F.ok S (fun vs H Q E h => ?_) fun cdv A outer s H vs Q E hr h => ?_
  · obtain ⟨S0, ds, kk, rfl, e, q, h, c⟩ := h
    rw [q.length]
    exact len _ _ h
  · obtain ⟨δ, hb, hd⟩ := body cdv A outer s H E hr
    obtain ⟨S0, ds, kk, rfl, e, q, h, c⟩ := h
    have hl : vs.length ≤ N.length := by
      rw [q.length, len _ _ h]
      exact hpl
    refine ⟨_, hb, S0, S0, _, _, rfl, reps_start hl e q, hd ds kk h, ?_⟩
    exact ⟨fun σ T ρ r hk => c .non .none T r.gr .non hk, fun v d σ T ρ r q hk => c v d T r.gr q hk, fun _ _ _ _ h => h.elim, fun _ _ _ _ h => h.elim, fun _ _ _ _ _ _ _ _ h => h.elim⟩
/-- the promise of a def that hands out a new thing -/
abbrev DRF := List PyData → (Slot → Prop) → Prop
def spF (K : PySem.W.Frag) (φ : DRF) : Sp := fun vs H Q _ => ∃ S ds k, H = S.h ∧ Ex S.d S.h ∧ Reps K S.d vs ds ∧ φ ds k ∧ ∀ v s T, Grow S T → SlotAt K T (some v) s → (∀ a ∈ s.ads, T.d a = none ∧ S.h a = none) → k s → Q v T.h
def ClF (P : Program) (w : World) (K : PySem.W.Frag) (mg : Str → Option Value) (base : Heap) (nm : Str) (ps : List Str) (k : Nat) (φ : DRF) : Prop :=
  ∃ f fd, mg nm = some (.ref f) ∧ PySem.W.keepIn K (.ref f) = true ∧ Binds K fd ps [] ∧ FnOk P w K mg base CX0 k f fd ps (spF K φ)
theorem ok_ofF {nm qual : Str} {ps N : List Str} {st : Stmt} {f : Addr} {fd : FuncData} {k : Nat} {φ : DRF} (F : Fun K nm qual st f fd) (S : FnScope N ps (defScope st)) (len : ∀ ds k, φ ds k → ds.length = ps.length)
    (body : ∀ (cdv : Value) (A : Around) (outer : List PySem.Env) (s : Shared) (H : Hp) (E : XK), Room k (bodyX P w K mg base N qual st f cdv A outer s H E).A →
      ∃ δ, PSs (bodyX P w K mg base N qual st f cdv A outer s H E) (defBody st) (tDS K δ) ∧ ∀ ds kk, φ ds kk → δ { nx := fun _ => False, rt := fun _ _ => False, rf := fun s _ => kk s } (env0 N.length (ds.map .dat))) :
    FnOk P w K mg base CX0 (k + 1) f fd ps (spF K φ) := by
  have hpl : ps.length ≤ N.length := by
    have := congrArg List.length S.pre
    rw [List.length_take] at this
    omega
  refine F.ok S (fun vs H Q E h => ?_) fun cdv A outer s H vs Q E hr h => ?_
  · obtain ⟨S0, ds, kk, rfl, e, q, h, c⟩ := h
    rw [q.length]
    exact len _ _ h
  · obtain ⟨δ, hb, hd⟩ := body cdv A outer s H E hr
    obtain ⟨S0, ds, kk, rfl, e, q, h, c⟩ := h
    have hl : vs.length ≤ N.length := by
      rw [q.length, len _ _ h]
      exact hpl
    refine ⟨_, hb, S0, S0, _, _, rfl, reps_start hl e q, hd ds kk h, ?_⟩
    exact ⟨fun _ _ _ _ h => h.elim, fun _ _ _ _ _ _ _ h => h.elim, fun _ _ _ _ h => h.elim, fun _ _ _ _ h => h.elim, fun v s σ T ρ r q f hk => c v s T r.gr q f hk⟩
theorem Df.clF {nm : Str} {ps N : List Str} {st : Stmt} {k : Nat} {φ : DRF} (D : Df K mg nm ps st) (S : FnScope N ps (defScope st)) (len : ∀ ds k, φ ds k → ds.length = ps.length)
    (body : ∀ (f : Addr) (cdv : Value) (A : Around) (outer : List PySem.Env) (s : Shared) (H : Hp) (E : XK), Room k (bodyX P w K mg base N nm st f cdv A outer s H E).A →
      ∃ δ, PSs (bodyX P w K mg base N nm st f cdv A outer s H E) (defBody st) (tDS K δ) ∧ ∀ ds kk, φ ds kk → δ { nx := fun _ => False, rt := fun _ _ => False, rf := fun s _ => kk s } (env0 N.length (ds.map .dat))) :
    ClF P w K mg base nm ps (k + 1) φ := by
  obtain ⟨f, fd, F, b, g⟩ := D
  exact ⟨f, fd, g, F.kp, b, ok_ofF F S len (body f)⟩
theorem Df.cl {nm : Str} {ps N : List Str} {st : Stmt} {k : Nat} {φ : DRn} (D : Df K mg nm ps st) (S : FnScope N ps (defScope st)) (len : ∀ ds k, φ ds k → ds.length = ps.length)
    (body : ∀ (f : Addr) (cdv : Value) (A : Around) (outer : List PySem.Env) (s : Shared) (H : Hp) (E : XK), Room k (bodyX P w K mg base N nm st f cdv A outer s H E).A →
      ∃ δ, PSs (bodyX P w K mg base N nm st f cdv A outer s H E) (defBody st) (tDS K δ) ∧ ∀ ds kk, φ ds kk → δ { nx := fun _ => kk .none, rt := fun d _ => kk d } (env0 N.length (ds.map .dat))) :
    Cl P w K mg base nm ps (k + 1) φ := by
  obtain ⟨f, fd, F, b, g⟩ := D
  exact ⟨f, fd, g, F.kp, b, ok_of F S len (body f)⟩
theorem Cl.mono {nm : Str} {ps : List Str} {j k : Nat} {φ : DRn} (C : Cl P w K mg base nm ps j φ) (h : j ≤ k) : Cl P w K mg base nm ps k φ :=
  let ⟨f, fd, a, b, c, d⟩ := C
  ⟨f, fd, a, b, c, d.mono h⟩
/-- a weaker promise -/
theorem Cl.imp {nm : Str} {ps : List Str} {k : Nat} {φ ψ : DRn} (C : Cl P w K mg base nm ps k φ) (h : ∀ ds kk, ψ ds kk → φ ds kk) : Cl P w K mg base nm ps k ψ :=
  let ⟨f, fd, a, b, c, d⟩ := C
  ⟨f, fd, a, b, c, d.imp fun _ _ _ _ ⟨S, ds, kk, e1, e2, e3, e4, e5⟩ => ⟨S, ds, kk, e1, e2, e3, h _ _ e4, e5⟩⟩

/-! ### a def whose first argument is a thing that it changes -/
def hid (H : Hp) (as : List Addr) : Hp := fun a => if a ∈ as then none else H a
theorem hid_ex {H : Hp} {as : List Addr} : Ex (hid H as) H := fun a o e => by
  unfold hid at e
  split at e
  · cases e
  · exact e
theorem hid_in {H : Hp} {as : List Addr} {a : Addr} (h : a ∈ as) : hid H as a = none := if_pos h
theorem hid_out {H : Hp} {as : List Addr} {a : Addr} (h : a ∉ as) : hid H as a = H a := if_neg h
abbrev DR1 := Slot → List PyData → (PyData → Slot → Prop) → Prop
theorem SlotAt.ref {S : Hs} {v : V} {s : Slot} {a : Addr} {r : List Addr} (h : SlotAt K S (some v) s) (e : s.ads = a :: r) : v = .ref a := by
  cases s with
  | no => cases e
  | dat d => cases e
  | lst l ds =>
    cases e
    exact Option.some.inj h.1
  | dK l ks =>
    cases e
    exact Option.some.inj h.1
  | dT l es =>
    cases e
    exact Option.some.inj h.1
  | crs C p l w h' g row =>
    cases e
    exact Option.some.inj h.1
def spD1 (K : PySem.W.Frag) (φ : DR1) : Sp := fun vs H Q _ => ∃ S v vs' s ds k, vs = v :: vs' ∧ H = S.h ∧ Ex S.d S.h ∧ SlotAt K S (some v) s ∧ s.ads ≠ [] ∧ (∀ a ∈ s.ads, S.d a = none) ∧ Reps K S.d vs' ds ∧ φ s ds k ∧
  ∀ u d T s', Grow ⟨S.d, hid S.h s.ads⟩ T → SlotAt K T (some v) s' → s'.ads = s.ads → (∀ a ∈ s.ads, T.d a = none) → Rep K T.d u d → k d s' → Q u T.h
def Cl1 (P : Program) (w : World) (K : PySem.W.Frag) (mg : Str → Option Value) (base : Heap) (nm : Str) (ps : List Str) (k : Nat) (φ : DR1) : Prop :=
  ∃ f fd, mg nm = some (.ref f) ∧ PySem.W.keepIn K (.ref f) = true ∧ Binds K fd ps [] ∧ FnOk P w K mg base CX0 k f fd ps (spD1 K φ)
theorem start_reps1 {S : Hs} {N : List Str} {v : V} {s : Slot} {vs : List V} {ds : List PyData} (hl : vs.length + 1 ≤ N.length) (e : Ex S.d S.h) (hs : SlotAt K S (some v) s) (hd : ∀ a ∈ s.ads, S.d a = none) (q : Reps K S.d vs ds) :
    RepS K ⟨S.d, hid S.h s.ads⟩ S (L2.start N (v :: vs)) (env0 N.length (s :: ds.map .dat)) := by
  have hn : ∀ i, i ≠ 0 → ((env0 N.length (s :: ds.map .dat)).getD i .no).ads = [] := fun i hi => by
    rw [env0_getD]
    cases i with
    | zero => exact absurd rfl hi
    | succ i =>
      rw [List.getD_eq_getElem?_getD, List.getElem?_cons_succ, List.getElem?_map]
      cases ds[i]? <;> rfl
  have h0 : (env0 N.length (s :: ds.map .dat)).getD 0 .no = s := by rw [env0_getD]; rfl
  refine ⟨⟨Ex.refl _, hid_ex, e, fun _ _ h => h⟩, ?_, fun i => ?_, fun i j a ha hb => ?_, fun i a ha => ?_⟩
  · unfold L2.start env0
    rw [List.length_append, List.length_append, List.length_map, List.length_replicate, List.length_replicate, List.length_cons, List.length_cons, q.length, List.length_map]
  · cases i with
    | zero =>
      rw [h0, start_get (v := v) (i := 0) rfl]
      exact hs
    | succ i =>
      rw [env0_getD, List.getD_eq_getElem?_getD, List.getElem?_cons_succ, List.getElem?_map]
      cases hd : ds[i]? with
      | none => trivial
      | some d =>
        obtain ⟨v', hv, qv⟩ := q.get hd
        rw [start_get (v := v') (i := i + 1) hv]
        exact ⟨v', rfl, qv⟩
  · by_cases hi : i = 0
    · by_cases hj : j = 0
      · rw [hi, hj]
      · rw [hn j hj] at hb
        cases hb
    · rw [hn i hi] at ha
      cases ha
  · by_cases hi : i = 0
    · subst hi
      rw [h0] at ha
      exact ⟨hd a ha, hid_in ha⟩
    · rw [hn i hi] at ha
      cases ha
/-- the ends of such a def: what slot 0 holds then -/
def ends1 (s : Slot) (kk : PyData → Slot → Prop) : DEnds := { nx := fun ρ => ∃ s', ρ[0]? = some s' ∧ s'.ads = s.ads ∧ kk .none s', rt := fun d ρ => ∃ s', ρ[0]? = some s' ∧ s'.ads = s.ads ∧ kk d s' }
theorem ok_of1 {nm qual : Str} {ps N : List Str} {st : Stmt} {f : Addr} {fd : FuncData} {k : Nat} {φ : DR1} (F : Fun K nm qual st f fd) (S : FnScope N ps (defScope st)) (len : ∀ s ds k, φ s ds k → ds.length + 1 = ps.length)
    (body : ∀ (cdv : Value) (A : Around) (outer : List PySem.Env) (s : Shared) (H : Hp) (E : XK), Room k (bodyX P w K mg base N qual st f cdv A outer s H E).A →
      ∃ δ, PSs (bodyX P w K mg base N qual st f cdv A outer s H E) (defBody st) (tDS K δ) ∧ ∀ s ds kk, φ s ds kk → δ (ends1 s kk) (env0 N.length (s :: ds.map .dat))) :
    FnOk P w K mg base CX0 (k + 1) f fd ps (spD1 K φ) := by
  have hpl : ps.length ≤ N.length := by
    have := congrArg List.length S.pre
    rw [List.length_take] at this
    omega
  refine F.ok S (fun vs H Q E h => ?_) fun cdv A outer s H vs Q E hr h => ?_
  · obtain ⟨S0, v, vs', s0, ds, kk, rfl, rfl, e, hs, hne, hd, q, h, c⟩ := h
    rw [List.length_cons, q.length]
    exact len _ _ _ h
  · obtain ⟨δ, hb, hdl⟩ := body cdv A outer s H E hr
    obtain ⟨S0, v, vs', s0, ds, kk, rfl, rfl, e, hs, hne, hd, q, h, c⟩ := h
    have hl : vs'.length + 1 ≤ N.length := by
      rw [q.length, len _ _ _ h]
      exact hpl
    obtain ⟨a0, r0, ea⟩ : ∃ a r, s0.ads = a :: r := by
      cases hz : s0.ads with
      | nil => exact absurd hz hne
      | cons a r => exact ⟨a, r, rfl⟩
    refine ⟨_, hb, _, S0, _, _, rfl, start_reps1 hl e hs hd q, hdl s0 ds kk h, ?_⟩
    have fin : ∀ (u : V) (d : PyData) (σ : St) (T : Hs) (ρ : Env), RepS K ⟨S0.d, hid S0.h s0.ads⟩ T σ ρ → Rep K T.d u d → (∃ s', ρ[0]? = some s' ∧ s'.ads = s0.ads ∧ kk d s') → Q u T.h := fun u d σ T ρ r qd ⟨s', e1, e2, hk⟩ => by
      have h1 := r.slot e1
      have h2 : SlotAt K T (some v) s' := by
        cases hz : (σ[0]?).join with
        | none =>
          rw [hz] at h1
          rw [ea] at e2
          cases s' with
          | no => cases e2
          | dat d => cases e2
          | lst l ds => exact absurd h1.1 nofun
          | dK l ks => exact absurd h1.1 nofun
          | dT l es => exact absurd h1.1 nofun
          | crs C p l w h' g row => exact absurd h1.1 nofun
        | some w' =>
          rw [hz] at h1
          have a1 := h1.ref (e2.trans ea)
          have a2 := hs.ref ea
          rw [a2, ← a1]
          exact h1
      refine c u d T s' r.gr h2 e2 (fun a ha => ?_) qd hk
      exact (r.own 0 a (by rw [getD_of e1, e2]; exact ha)).1
    exact ⟨fun σ T ρ r hk => fin .non .none σ T ρ r .non hk, fun v d σ T ρ r q hk => fin v d σ T ρ r q hk, fun _ _ _ _ h => h.elim, fun _ _ _ _ h => h.elim, fun _ _ _ _ _ _ _ _ h => h.elim⟩
theorem Df.cl1 {nm : Str} {ps N : List Str} {st : Stmt} {k : Nat} {φ : DR1} (D : Df K mg nm ps st) (S : FnScope N ps (defScope st)) (len : ∀ s ds k, φ s ds k → ds.length + 1 = ps.length)
    (body : ∀ (f : Addr) (cdv : Value) (A : Around) (outer : List PySem.Env) (s : Shared) (H : Hp) (E : XK), Room k (bodyX P w K mg base N nm st f cdv A outer s H E).A →
      ∃ δ, PSs (bodyX P w K mg base N nm st f cdv A outer s H E) (defBody st) (tDS K δ) ∧ ∀ s ds kk, φ s ds kk → δ (ends1 s kk) (env0 N.length (s :: ds.map .dat))) :
    Cl1 P w K mg base nm ps (k + 1) φ := by
  obtain ⟨f, fd, F, b, g⟩ := D
  exact ⟨f, fd, g, F.kp, b, ok_of1 F S len (body f)⟩
end
section
variable {K : PySem.W.Frag} {B S T : Hs} {σ : St} {ρ : Env}
/-- behind a call that changed what slot i owns -/
theorem RepS.after1 (r : RepS K B S σ ρ) {i : Nat} {s s' : Slot} (e : ρ[i]? = some s) (g : Grow ⟨S.d, hid S.h s.ads⟩ T) (hs : SlotAt K T (σ[i]?).join s') (ha : s'.ads = s.ads) (hd : ∀ a ∈ s.ads, T.d a = none) : RepS K B T σ (ρ.set i s') := by
  have hi : i < ρ.length := (List.getElem?_eq_some_iff.mp e).1
  have hg := getD_of e
  have no : ∀ a u, B.h a = some u → a ∉ s.ads := fun a u hu hm => by
    rw [(r.own i a (by rw [hg]; exact hm)).2] at hu
    cases hu
  refine r.change (i := i) ⟨r.gr.dd.trans g.dd, fun a u hu => ?_, g.dh, fun a h1 h2 => ?_⟩ g.dd (by rw [List.length_set, r.len]) (fun j e => rfl) (fun j e => getD_set_ne e) ?_ (fun a hm => ?_) fun j hj a hm => ?_
  · refine g.hh a u ?_
    show hid S.h s.ads a = some u
    rw [hid_out (no a u hu)]
    exact r.gr.hh a u hu
  · obtain ⟨u, hu⟩ : ∃ u, B.h a = some u := Option.ne_none_iff_exists'.mp h1
    refine g.nw a ?_ (r.gr.nw a h1 h2)
    show hid S.h s.ads a ≠ none
    rw [hid_out (no a u hu), r.gr.hh a u hu]
    exact nofun
  · rw [getD_set_self hi]
    exact hs
  · rw [getD_set_self hi, ha] at hm
    exact ⟨fun j hj hb => hj (r.ap j i a hb (by rw [hg]; exact hm)), hd a hm, (r.own i a (by rw [hg]; exact hm)).2⟩
  · have nm : a ∉ s.ads := fun z => hj (r.ap j i a hm (by rw [hg]; exact z))
    refine ⟨fun u hu => ?_, g.nw a ?_ (r.own j a hm).1⟩
    · refine g.hh a u ?_
      show hid S.h s.ads a = some u
      rw [hid_out nm]
      exact hu
    · show hid S.h s.ads a ≠ none
      rw [hid_out nm]
      exact (r.at_ j).there a hm
end
section
variable {X : Cx} {e : Expr} {es : List Expr} {ω : DTA} {pos p q : Pos} {x y : Str} {i : Nat}
/-- f(own, ..): slot i's thing is changed -/
@[simp] def dCall1 (i : Nat) (φ : DR1) (ω : DTA) : DTE := fun ρ k => (∃ s, ρ[i]? = some s ∧ s.ads ≠ []) ∧ ω ρ fun ds ρ1 => ∃ s, ρ1[i]? = some s ∧ s.ads ≠ [] ∧ φ s ds fun d s' => k d (ρ1.set i s')
theorem own_var {K : PySem.W.Frag} {B S : Hs} {σ : St} {ρ : Env} (r : RepS K B S σ ρ) {s : Slot} (e : ρ[i]? = some s) (h : s.ads ≠ []) : ∃ v, σ[i]? = some (some v) := by
  have hs := r.slot e
  cases hz : (σ[i]?).join with
  | some v => exact ⟨v, join_some hz⟩
  | none =>
    rw [hz] at hs
    cases s with
    | no => exact absurd rfl h
    | dat d => exact absurd rfl h
    | lst l ds => exact absurd hs.1 nofun
    | dK l ks => exact absurd hs.1 nofun
    | dT l es => exact absurd hs.1 nofun
    | crs C p l w h' g row => exact absurd hs.1 nofun
theorem de_call1 {ps : List Str} {k j : Nat} {φ : DR1} (C : Cl1 X.prog X.w X.K X.mg X.base x ps j φ) (hr : Room k X.A) (hj : j ≤ k) (hg : Gl X x) (hy : PE X (.Name y q) (tVar i)) (ha : PA X es (tDA X.K ω)) (hdb : (x == ("__debug__" : Str)) = false := by decide)
    (he : starEach (.Name y q :: es) X.env = (false, eval (.Name y q) X.env) :: starEach es X.env := by rfl) (hpl : (backTo pos (starEach es X.env)).any (·.1) = false := by rfl) : PE X (.Call (.Name x p) (.Name y q :: es) [] pos) (tD X.K (dCall1 i φ ω)) := by
  obtain ⟨f, fd, h1, h2, h3, h4⟩ := C
  refine PE.weak (pe_call (E := E0) (dvs := []) h4 (hr.mono hj) hg h1 h2 h3 .nil pass0 (pa_cons hy ha he) hdb he hpl) fun σ H Q h => ?_
  obtain ⟨B, S, ρ, k, rfl, r0, ⟨⟨s0, e0, n0⟩, h⟩, c⟩ := h
  obtain ⟨v, hv⟩ := own_var r0 e0 n0
  refine ⟨v, hv, B, S, ρ, _, rfl, r0, h, fun vs xs ρ1 S1 e1 r1 q1 h1 => ?_⟩
  obtain ⟨s, es, ns, h1⟩ := h1
  have hs := r1.slot es
  rw [hv] at hs
  show spD1 X.K φ ((v :: vs) ++ []) S1.h Q E0
  rw [List.append_nil]
  refine ⟨S1, v, vs, s, xs, _, rfl, rfl, r1.gr.dh, hs, ns, fun a ha => (r1.own i a (by rw [getD_of es]; exact ha)).1, q1, h1, fun u d T s' g hs' ha' hd' qd hk => ?_⟩
  exact c u d _ T (e1.trans g.dd) (r1.after1 es g (by rw [hv]; exact hs') ha' hd') qd hk
/-- f(..) that hands out a new thing -/
def dCF (φ : DRF) (ω : DTA) : DTF := fun ρ k => ω ρ fun xs ρ1 => φ xs fun s => k s ρ1
theorem df_call {ps : List Str} {k j : Nat} {φ : DRF} (C : ClF X.prog X.w X.K X.mg X.base x ps j φ) (hr : Room k X.A) (hj : j ≤ k) (hg : Gl X x) (ha : PA X (e :: es) (tDA X.K ω)) (hdb : (x == ("__debug__" : Str)) = false := by decide)
    (he : starEach (e :: es) X.env = (false, eval e X.env) :: starEach es X.env := by rfl) (hpl : (backTo pos (starEach es X.env)).any (·.1) = false := by rfl) : PE X (.Call (.Name x p) (e :: es) [] pos) (tDF X.K (dCF φ ω)) := by
  obtain ⟨f, fd, h1, h2, h3, h4⟩ := C
  refine PE.weak (pe_call (E := E0) (dvs := []) h4 (hr.mono hj) hg h1 h2 h3 .nil pass0 ha hdb he hpl) fun σ H Q h => ?_
  obtain ⟨B, S, ρ, k, rfl, r0, h, c⟩ := h
  refine ⟨B, S, ρ, _, rfl, r0, h, fun vs xs ρ1 S1 e1 r1 q1 h1 => ?_⟩
  show spF X.K φ (vs ++ []) S1.h Q E0
  rw [List.append_nil]
  exact ⟨S1, xs, _, rfl, r1.gr.dh, q1, h1, fun v s T g qs fs hk => c v s ρ1 T (e1.trans g.dd) (r1.grow g) qs (fun a ha => ⟨fun j hj => ((r1.at_ j).there a hj) (fs a ha).2, (fs a ha).1, r1.gr.hh.back (fs a ha).2⟩) hk⟩
end
end DL
end
section
set_option Elab.async false
set_option maxRecDepth 100000
set_option linter.all false
/-! Dict comprehensions with two clauses whose keys are tuples, and y = {..} of one clause: the same roads as for lists. -/
namespace L2.DC
open PySem PySem.Spec PyProof.Rows
theorem turnDict2_out (kx vx t0 i0 t1 i1 : Expr) (ifs0 ifs1 : List Expr) (scope : Scope) (pos : Pos) (it : Value) (D : Addr) (env : Env) :
    compTurn (.DictComp kx vx [⟨t0, i0, ifs0, 0⟩, ⟨t1, i1, ifs1, 0⟩] scope pos) 0 it (.ref D) env = (do
      standAt i0.pos
      match ← pyNext it with
      | none => pure (.done .next)
      | some v =>
        letOwnedTupleGo t0 it v
        assign t0 env v
        let mut ok := true
        for c in ifs0 do
          if ok then ok ← isTrue c env (eval c env)
        if ok then
          let x ← eval i1 env
          standAt i1.pos
          let x ← foldedSetIterable i1 env x
          let _ ← runOwn (.compStart (.DictComp kx vx [⟨t0, i0, ifs0, 0⟩, ⟨t1, i1, ifs1, 0⟩] scope pos) 1 (← holding [x] (pyIter x)) (.ref D) env) env
        again (.compLoop (.DictComp kx vx [⟨t0, i0, ifs0, 0⟩, ⟨t1, i1, ifs1, 0⟩] scope pos) 0 it (.ref D) env)) := by rfl
theorem turnDict2_in (kx vx t0 i0 t1 i1 : Expr) (ifs0 ifs1 : List Expr) (scope : Scope) (pos : Pos) (it : Value) (D : Addr) (env : Env) :
    compTurn (.DictComp kx vx [⟨t0, i0, ifs0, 0⟩, ⟨t1, i1, ifs1, 0⟩] scope pos) 1 it (.ref D) env = (do
      standAt i1.pos
      match ← pyNext it with
      | none => pure (.done .next)
      | some v =>
        letOwnedTupleGo t1 it v
        assign t1 env v
        let mut ok := true
        for c in ifs1 do
          if ok then ok ← isTrue c env (eval c env)
        if ok then
          (do
            let kv ← eval kx env
            let vv ← holding [kv] (eval vx env)
            standAt { kx.pos with endLine := vx.pos.endLine, endCol := vx.pos.endCol }
            holding [kv, vv] (dictSet D kv vv))
        again (.compLoop (.DictComp kx vx [⟨t0, i0, ifs0, 0⟩, ⟨t1, i1, ifs1, 0⟩] scope pos) 1 it (.ref D) env)) := by rfl

section
variable {prog : Program} {w : World} {A : Around} {R : Result → Shared → Prop} {s : Shared} {kx vx t0 i0 t1 i1 : Expr} {ifs0 ifs1 : List Expr} {scope : Scope} {pos : Pos} {it : Value} {D : Addr} {env : Env}
/-- the loop of the first clause -/
theorem loopDict2_out (hs : ∀ x, foldedSetIterable i1 env x = pure x) (I : Nat → Shared → Prop)
    (turn : ∀ n s, I n s → wpAny (model prog w) A (pyNext it) (fun r s₁ => match r with
      | none => R (.ok .next) s₁
      | some v => wpAny (model prog w) A (letOwnedTupleGo t0 it v) (fun _ s₁' => wpAny (model prog w) A (assign t0 env v) (fun _ s₂ =>
          wpAny (model prog w) A (forIn ifs0 true fun c r => if r = true then do let ok ← isTrue c env (eval c env); pure (ForInStep.yield ok) else pure (ForInStep.yield r)) (fun ok s₃ =>
            if ok = true then wpAny (model prog w) A (eval i1 env) (fun x s₄ => wpAny (model prog w) A (pyIter x) (fun it1 s₅ =>
              codeAny (model prog w) A (.compStart (.DictComp kx vx [⟨t0, i0, ifs0, 0⟩, ⟨t1, i1, ifs1, 0⟩] scope pos) 1 it1 (.ref D) env) (fun r s' => match r with
                | .ok _ => ∃ m, m < n ∧ I m s'
                | .error _ => False) s₅) (notedBy (model prog w) A env fun e s' => R (.error e) s') s₄) (notedBy (model prog w) A env fun e s' => R (.error e) s') s₃
            else ∃ m, m < n ∧ I m s₃) (notedBy (model prog w) A env fun e s' => R (.error e) s') s₂) (notedBy (model prog w) A env fun e s' => R (.error e) s') s₁') (notedBy (model prog w) A env fun e s' => R (.error e) s') s₁) (notedBy (model prog w) A env fun e s' => R (.error e) s') s)
    (n : Nat) (h : I n s) :
    codeAny (model prog w) A (.compLoop (.DictComp kx vx [⟨t0, i0, ifs0, 0⟩, ⟨t1, i1, ifs1, 0⟩] scope pos) 0 it (.ref D) env) R s := by
  refine codeAny_loop rfl I (fun n s hI => ?_) n h
  show wpAny _ A ((compTurn (.DictComp kx vx [⟨t0, i0, ifs0, 0⟩, ⟨t1, i1, ifs1, 0⟩] scope pos) 0 it (.ref D) env).onRaise (fun x => do noteFrame x env; theTreesLotGoes x)) _ _ s
  refine wpAny_noted ?_
  rw [turnDict2_out]
  refine wpAny_bind (wpAny_standAt (wpAny_bind (wpAny_mono (turn n s hI) (fun r s₁ g₁ => ?_) fun _ _ h' => h')))
  cases r with
  | none => exact wpAny_pure g₁
  | some v =>
    refine wpAny_bind (wpAny_mono g₁ (fun _ s₁' g₁' => ?_) fun _ _ h' => h')
    refine wpAny_bind (wpAny_mono g₁' (fun _ s₂ h₂ => wpAny_bind (wpAny_mono h₂ (fun ok s₃ h₃ => ?_) fun _ _ h' => h')) fun _ _ h' => h')
    cases ok with
    | false => exact wpAny_pure ⟨rfl, h₃⟩
    | true =>
      refine wpAny_bind (wpAny_mono h₃ (fun x s₄ h₄ => ?_) fun _ _ h' => h')
      refine wpAny_bind (wpAny_standAt (wpAny_bind (wpAny_of_eq (hs x) (wpAny_bind (wpAny_holding (wpAny_mono h₄ (fun it1 s₅ h₅ => ?_) fun _ _ h' => h'))))))
      refine wpAny_bind (wpAny_runOwn ?_)
      rw [Around.mark_none]
      refine codeAny_mono h₅ fun r s' hr => ?_
      cases r with
      | ok f =>
        first
          | exact wpAny_pure ⟨rfl, hr⟩
          | exact wpAny_bind (wpAny_pure (wpAny_pure ⟨rfl, hr⟩))
      | error e => exact hr.elim
/-- the loop of the second -/
theorem loopDict2_in (I : Nat → Shared → Prop)
    (turn : ∀ n s, I n s → wpAny (model prog w) A (pyNext it) (fun r s₁ => match r with
      | none => R (.ok .next) s₁
      | some v => wpAny (model prog w) A (letOwnedTupleGo t1 it v) (fun _ s₁' => wpAny (model prog w) A (assign t1 env v) (fun _ s₂ =>
          wpAny (model prog w) A (forIn ifs1 true fun c r => if r = true then do let ok ← isTrue c env (eval c env); pure (ForInStep.yield ok) else pure (ForInStep.yield r)) (fun ok s₃ =>
            if ok = true then wpAny (model prog w) A (eval kx env) (fun kv s₄ => wpAny (model prog w) A (eval vx env) (fun vv s₅ =>
              wpAny (model prog w) A (dictSet D kv vv) (fun _ s₆ => ∃ m, m < n ∧ I m s₆) (notedBy (model prog w) A env fun e s' => R (.error e) s') s₅) (notedBy (model prog w) A env fun e s' => R (.error e) s') s₄) (notedBy (model prog w) A env fun e s' => R (.error e) s') s₃
            else ∃ m, m < n ∧ I m s₃) (notedBy (model prog w) A env fun e s' => R (.error e) s') s₂) (notedBy (model prog w) A env fun e s' => R (.error e) s') s₁') (notedBy (model prog w) A env fun e s' => R (.error e) s') s₁) (notedBy (model prog w) A env fun e s' => R (.error e) s') s)
    (n : Nat) (h : I n s) :
    codeAny (model prog w) A (.compLoop (.DictComp kx vx [⟨t0, i0, ifs0, 0⟩, ⟨t1, i1, ifs1, 0⟩] scope pos) 1 it (.ref D) env) R s := by
  refine codeAny_loop rfl I (fun n s hI => ?_) n h
  show wpAny _ A ((compTurn (.DictComp kx vx [⟨t0, i0, ifs0, 0⟩, ⟨t1, i1, ifs1, 0⟩] scope pos) 1 it (.ref D) env).onRaise (fun x => do noteFrame x env; theTreesLotGoes x)) _ _ s
  refine wpAny_noted ?_
  rw [turnDict2_in]
  refine wpAny_bind (wpAny_standAt (wpAny_bind (wpAny_mono (turn n s hI) (fun r s₁ g₁ => ?_) fun _ _ h' => h')))
  cases r with
  | none => exact wpAny_pure g₁
  | some v =>
    refine wpAny_bind (wpAny_mono g₁ (fun _ s₁' g₁' => ?_) fun _ _ h' => h')
    refine wpAny_bind (wpAny_mono g₁' (fun _ s₂ h₂ => wpAny_bind (wpAny_mono h₂ (fun ok s₃ h₃ => ?_) fun _ _ h' => h')) fun _ _ h' => h')
    cases ok with
    | false => exact wpAny_pure ⟨rfl, h₃⟩
    | true =>
      exact wpAny_bind (wpAny_bind (wpAny_mono h₃ (fun kv s₄ h₄ => wpAny_bind (wpAny_holding (wpAny_mono h₄ (fun vv s₅ h₅ => wpAny_bind (wpAny_standAt (wpAny_holding (wpAny_mono h₅ (fun _ s₆ h₆ => wpAny_pure ⟨rfl, h₆⟩) fun _ _ h' => h')))) fun _ _ h' => h'))) fun _ _ h' => h'))
/-- the second clause's start -/
theorem startDict1 (h0 : codeAny (model prog w) A (.compLoop (.DictComp kx vx [⟨t0, i0, ifs0, 0⟩, ⟨t1, i1, ifs1, 0⟩] scope pos) 1 it (.ref D) env) R s)
    (h : wpAny (model prog w) A (pyIter it) (fun it' s' => codeAny (model prog w) A (.compLoop (.DictComp kx vx [⟨t0, i0, ifs0, 0⟩, ⟨t1, i1, ifs1, 0⟩] scope pos) 1 it' (.ref D) env) R s')
      (notedBy (model prog w) A env fun x s' => R (.error x) s') s) :
    codeAny (model prog w) A (.compStart (.DictComp kx vx [⟨t0, i0, ifs0, 0⟩, ⟨t1, i1, ifs1, 0⟩] scope pos) 1 it (.ref D) env) R s := by
  refine codeAny_of_tree ?_
  show wpAny _ _ ((compStart (.DictComp kx vx [⟨t0, i0, ifs0, 0⟩, ⟨t1, i1, ifs1, 0⟩] scope pos) 1 it (.ref D) env).onRaise (fun x => do noteFrame x env; standAt theWindowsPlace)) _ _ s
  refine wpAny_notedAt ?_
  unfold compStart
  show wpAny _ _ (ask >>= _) _ _ s
  refine wpAny_bind (wpAny_askSetting (wpAny_ite ?_))
  split
  · first
      | exact wpAny_bind (wpAny_pure (wpAny_pure (And.intro rfl h0)))
      | exact wpAny_pure (And.intro rfl h0)
  · first
      | exact wpAny_bind (wpAny_rule (wpAny_bind (wpAny_standAt (wpAny_bind (wpAny_mono h (fun it' s' h' => wpAny_pure (And.intro rfl h')) fun _ _ x => x)))))
      | (refine wpAny_bind (wpAny_rule ?_); show wpAny _ _ (standAt i1.pos >>= _) _ _ s; exact wpAny_bind (wpAny_standAt (wpAny_bind (wpAny_mono h (fun it' s' h' => wpAny_pure (And.intro rfl h')) fun _ _ x => x))))
end

section
variable {X : Cx}
/-- D[k] = v within a comprehension, k a tuple -/
theorem d_dictSetT {pins : List (Addr × Obj)} {σ : St} {H : Hp} {s : Shared} {E : Value → Shared → Prop} {D b : Addr} {kvs : List (List Key × V)} {k : List Key} {v : V} {r : Value} {Q : Unit → Shared → Prop} (hu : X.A.units < cLine) (I : Inv X pins σ H s) (eD : H D = some (.dT kvs)) (hb : H b = some (.tup (k.map kV))) (hz : kvs.length < sizeLine)
    (rv : RelV v r) (h : ∀ s', Inv X pins σ (upd H D (.dT (putK kvs k v))) s' → Q () s') : wpAny (model X.prog X.w) X.A (dictSet D (.ref b) r) Q E s := by
  obtain ⟨z, hd, xs, rel, dd⟩ := dt_of I.hok eD
  have hzx : xs.length ≤ sizeLine := by rw [← Paired.length rel]; exact z
  have hlp : (putK kvs k v).length ≤ sizeLine := by have := length_putK kvs k v; omega
  refine wpAny_dictSet_heap (hsz := hzx) (show (tupleKind (mixKind X.prog X.w)).room X.A from hu) (key_of I.hok hb) dd fun h' dd' hs => h _ ?_
  obtain ⟨q, es, ep, hq, h2, h3, h4, _, h5⟩ := dd'
  refine d_write I (by rw [eD]; exact True.intro) hs ⟨q, hq⟩ ⟨hlp, hd, _, (rel.put k hb rv).keeps fun c ys ec => ?_, q, es, ep, hq, h2, h3, h4, h5⟩
  rw [upd_ne (ne_of ec eD (fun z => nomatch z))]
  exact ec
def tDc2 (wi : TI) (g : TG) (tt : TT) (wi1 : TI) (g1 : TG) (tt1 : TT) (tk tv : TE) (vs vs1 : List Nat) : TE := fun σ H Q => wi σ H fun J H1 => ∀ D, H1 D = none → ∃ W : Nat → Nat → Hp → Prop, (∃ m, W 0 m (upd H1 D (.dT []))) ∧ ∀ i m H, W i m H →
  (J.stop i H ∧ Q (.ref D) H) ∨ (J.go i H ∧ ∃ Nx : Hp → Prop, (∀ H', Nx H' → ∃ m', m' < m ∧ W (i + 1) m' H') ∧ ∀ x H', J.yld i H x H' → g x (wipe σ vs) H' fun σ2 H2 => wipe σ2 vs = wipe σ vs ∧ tt σ2 H2 fun b H3 =>
    if b = true then wi1 σ2 H3 fun J1 H4 => ∃ W1 : Nat → Nat → Hp → Prop, (∃ m, W1 0 m H4) ∧ ∀ j k H, W1 j k H →
      (J1.stop j H ∧ Nx H) ∨ (J1.go j H ∧ ∃ Nx1 : Hp → Prop, (∀ H', Nx1 H' → ∃ k', k' < k ∧ W1 (j + 1) k' H') ∧ ∀ x H', J1.yld j H x H' → g1 x (wipe σ2 vs1) H' fun σ3 H5 => wipe σ3 vs1 = wipe σ2 vs1 ∧ tt1 σ3 H5 fun b H6 =>
        if b = true then tk σ3 H6 fun y H7 => tv σ3 H7 fun z H8 => ∃ kvs k c, y = .ref c ∧ H8 c = some (.tup (k.map kV)) ∧ H8 D = some (.dT kvs) ∧ kvs.length < sizeLine ∧ Nx1 (upd H8 D (.dT (putK kvs k z))) else Nx1 H6)
    else Nx H3)
theorem coreDc2 {pins : List (Addr × Obj)} {s : Shared} {σ : St} {H : Hp} {Q : VK} {kx vx tg iter tg1 iter1 : Expr} {ifs ifs1 : List Expr} {scope : Scope} {own : List (Str × Nat)} {vs1 : List Nat} {pos pos' : Pos} {wi wi1 : TI} {g g1 : TG} {tt tt1 : TT} {tk tv : TE} {use : Option (Value → Sem Unit)} {Qf : Value → Shared → Prop}
    (hc : X.calm = true) (hN : X.N.Nodup) (I : Inv X pins σ H s) (hi : PI X tg iter wi) (ok : BlkOk X.N X.env.scope scope own) (hv : ∀ i ∈ vs1, i ∈ own.map (·.2))
    (hg : ∀ (s : Shared) (H : Hp) (C : Addr) (cl : List (Str × Addr)) (fp : List Addr), PG (X.blk s H scope (compEnvC scope cl C X.env) fp) tg g) (ht : ∀ (s : Shared) (H : Hp) (C : Addr) (cl : List (Str × Addr)) (fp : List Addr), PTs (X.blk s H scope (compEnvC scope cl C X.env) fp) ifs tt)
    (he : ∀ (s : Shared) (H : Hp) (C : Addr) (cl : List (Str × Addr)) (fp : List Addr), PE (X.blk s H scope (compEnvC scope cl C X.env) fp) kx tk) (hu : X.A.units < cLine) (hvx : ∀ (s : Shared) (H : Hp) (C : Addr) (cl : List (Str × Addr)) (fp : List Addr), PE (X.blk s H scope (compEnvC scope cl C X.env) fp) vx tv) (hs : ∀ x, foldedSetIterable iter X.env x = pure x)
    (hi1 : ∀ (s : Shared) (H : Hp) (C : Addr) (cl : List (Str × Addr)) (fp : List Addr), PI (X.blk s H scope (compEnvC scope cl C X.env) fp) tg1 iter1 wi1)
    (hg1 : ∀ (s : Shared) (H : Hp) (C : Addr) (cl : List (Str × Addr)) (fp : List Addr), PG (X.blk s H scope (compEnvC scope cl C X.env) fp) tg1 g1)
    (ht1 : ∀ (s : Shared) (H : Hp) (C : Addr) (cl : List (Str × Addr)) (fp : List Addr), PTs (X.blk s H scope (compEnvC scope cl C X.env) fp) ifs1 tt1)
    (hs1 : ∀ env x, foldedSetIterable iter1 env x = pure x)
    (h : tDc2 wi g tt wi1 g1 tt1 tk tv (own.map (·.2)) vs1 σ H Q)
    (hRR : ∀ D C s' m H', Inv X pins σ H' s' → Q (.ref D) H' → s'.heap.Ns C m → FpOk X pins H' C → compPost (model X.prog X.w) X.A X.xe use Qf (.ref D) C (.ok .next) s') :
    wpAny (model X.prog X.w) X.A (comprehension (.DictComp kx vx [⟨tg, iter, ifs, 0⟩, ⟨tg1, iter1, ifs1, 0⟩] scope pos) scope X.env pos' (newDict) false (eval iter X.env) use) Qf X.xe s := by
  have freeOk : ∀ y ∈ scope.names, y.2 = .free → ∃ c, X.env.cells.lookup y.1 = some c := fun y hy e => by
    rcases ok.free y hy e with k | k
    · exact I.ok.has _ (.inl k)
    · exact I.ok.has _ (.inr k)
  refine wpAny_comprehension_free (use := use) rfl hs (closure_ok freeOk) ok.kind (fun y hy e => by rw [ok.uniq y hy, e])
    (thn (hi.run pins s σ H _ I h) fun xv s1 hx => thn hx fun itv s2 h2 => ?_)
  obtain ⟨it, fp, tn, J, H2, e, Iv2, T, sta2, fa2, q⟩ := h2
  subst e
  refine wpAny_newObj_type (newEnv_comp ?_)
  generalize eD : s2.heap.objs.size = D
  have eDn : H2 D = none := Iv2.hok.fresh (Nat.le_of_eq eD)
  obtain ⟨W, ⟨mz, wz⟩, turn⟩ := q D eDn
  -- the new list
  generalize eS3 : ({ s2 with heap := s2.heap.push { cls := .type "dict", data := .dict #[] } } : Shared) = s3
  have Iv3 : Inv X pins σ (upd H2 D (.dT [])) s3 := by
    rw [← eS3]
    refine Iv2.laid (t' := s2.toks) (fun b o e => Heap.get?_push_of_some _ e) (Nat.le_of_eq eD) ?_
    rw [← eD]
    exact dt_empty s2.heap Iv2.big
  have h3 : s3.heap = s2.heap.push { cls := .type "dict", data := .dict #[] } := by rw [← eS3]
  have siz : ∀ b ∈ fp, b < s2.heap.objs.size := fun b hb => by
    obtain ⟨o, e, _⟩ := T.obj _ _ sta2 b hb
    exact Heap.lt_size e
  have fa3 : ∀ b ∈ fp, FpOk X pins (upd H2 D (.dT [])) b ∧ b < s3.heap.objs.size := fun b hb => by
    have blt := siz b hb
    refine ⟨⟨?_, (fa2 b hb).2⟩, by rw [h3, Heap.size_push]; exact Nat.lt_succ_of_lt blt⟩
    rw [upd_ne (by rw [← eD]; exact Nat.ne_of_lt blt)]
    exact (fa2 b hb).1
  have sta3 : tn 0 s3.heap := T.keep _ _ _ sta2 fun b _ o e => by rw [h3]; exact Heap.get?_push_of_some _ e
  have Iv4 := block_start Iv3 ok hN fa3
  have pg := hg s3 (upd H2 D (.dT [])) s3.heap.objs.size (cellsFrom (s3.heap.objs.size + 1) scope.names (cloFrom X.env.cells scope.names [])) fp
  have pt := ht s3 (upd H2 D (.dT [])) s3.heap.objs.size (cellsFrom (s3.heap.objs.size + 1) scope.names (cloFrom X.env.cells scope.names [])) fp
  have pe := he s3 (upd H2 D (.dT [])) s3.heap.objs.size (cellsFrom (s3.heap.objs.size + 1) scope.names (cloFrom X.env.cells scope.names [])) fp
  have pvx := hvx s3 (upd H2 D (.dT [])) s3.heap.objs.size (cellsFrom (s3.heap.objs.size + 1) scope.names (cloFrom X.env.cells scope.names [])) fp
  have pi1 := hi1 s3 (upd H2 D (.dT [])) s3.heap.objs.size (cellsFrom (s3.heap.objs.size + 1) scope.names (cloFrom X.env.cells scope.names [])) fp
  have pg1 := hg1 s3 (upd H2 D (.dT [])) s3.heap.objs.size (cellsFrom (s3.heap.objs.size + 1) scope.names (cloFrom X.env.cells scope.names [])) fp
  have pt1 := ht1 s3 (upd H2 D (.dT [])) s3.heap.objs.size (cellsFrom (s3.heap.objs.size + 1) scope.names (cloFrom X.env.cells scope.names [])) fp
  show codeAny _ _ (.compStart (.DictComp kx vx [⟨tg, iter, ifs, 0⟩, ⟨tg1, iter1, ifs1, 0⟩] scope pos) 0 (.ref it) (.ref D) (compEnvC scope (cellsFrom (s3.heap.objs.size + 1) scope.names (cloFrom X.env.cells scope.names [])) s3.heap.objs.size X.env)) (compPost (model X.prog X.w) X.A X.xe use Qf (.ref D) s3.heap.objs.size) { s3 with heap := pushCells (s3.heap.push { cls := .type "dict", data := .dict #[] }) scope.names }
  have noFp : ∀ b ∈ fp, (upd H2 D (.dT [])) b = none := fun b hb => (fa3 b hb).1.1
  generalize eCe : compEnvC scope (cellsFrom (s3.heap.objs.size + 1) scope.names (cloFrom X.env.cells scope.names [])) s3.heap.objs.size X.env = cEnv at Iv4 pg pt pe pvx pi1 pg1 pt1 ⊢
  have cL : cEnv.locals = s3.heap.objs.size := by subst eCe; rfl
  generalize hH3 : upd H2 D (.dT []) = H3 at Iv3 Iv4 pg pt pe pvx pi1 pg1 pt1 wz noFp fa3
  generalize eS4 : ({ s3 with heap := pushCells (s3.heap.push { cls := .type "dict", data := .dict #[] }) scope.names } : Shared) = s4 at Iv4 ⊢
  have sta4 : tn 0 s4.heap := T.keep _ _ _ sta3 fun b _ o e => by rw [← eS4]; exact pushCells_keeps _ _ _ _ (Heap.get?_push_of_some _ e)
  have stt : ∀ {σ' : St} {H' : Hp} {s' : Shared}, Inv (X.blk s3 H3 scope cEnv fp) [] σ' H' s' → (∀ b ∈ fp, H' b = none) → ∀ b ∈ fp, FpOk (X.blk s3 H3 scope cEnv fp) [] H' b := fun {σ' H' s'} I' hn b hb =>
    ⟨hn b hb, (I'.ok.exf b hb).1, I'.ok.exfs b hb, .inl hb, fun x c e => (I'.ok.exf b hb).2 x c e, fun p hp => absurd (show p ∈ ([] : List (Addr × Obj)) ++ [] from hp) (by simp)⟩
  have loop : codeAny (model X.prog X.w) X.A (.compLoop (.DictComp kx vx [⟨tg, iter, ifs, 0⟩, ⟨tg1, iter1, ifs1, 0⟩] scope pos) 0 (.ref it) (.ref D) cEnv) (compPost (model X.prog X.w) X.A X.xe use Qf (.ref D) s3.heap.objs.size) s4 := by
    refine loopDict2_out (hs1 cEnv) (fun n s' => ∃ i H', Inv (X.blk s3 H3 scope cEnv fp) [] (wipe σ (own.map (·.2))) H' s' ∧ tn i s'.heap ∧ (∀ b ∈ fp, H' b = none) ∧ W i n H') ?_ mz ⟨0, H3, Iv4, sta4, noFp, wz⟩
    rintro n s5 ⟨i, H5, Iv5, sta5, n5, w5⟩
    rcases turn i n H5 w5 with ⟨stop, qq⟩ | ⟨go, Nx, hNx, step⟩
    · have tdn := T.done (X.blk s3 H3 scope cEnv fp) rfl rfl rfl hc i [] s5 _ H5 (fun _ _ => False) Iv5 (stt Iv5 n5) sta5 stop
      refine thnF tdn fun r s6 ⟨hr, Iv6⟩ => ?_
      subst hr
      -- back in the def's context
      have Iv7 : Inv X pins σ H5 s6 := Iv3.call' (ch := fp) Iv6.os Iv6.base Iv6.hok Iv6.bare fun b hb => ⟨(fa3 b hb).1.2.2.2.1, (fa3 b hb).1.2.1, (fa3 b hb).1.2.2.2.2.1, (fa3 b hb).1.2.2.2.2.2⟩
      have noC : H5 s3.heap.objs.size = none := by
        have z : H5 cEnv.locals = none := Iv6.free
        rw [cL] at z
        exact z
      obtain ⟨m, hn, _⟩ := Iv6.loc
      have hn : s6.heap.Ns cEnv.locals m := hn
      rw [cL] at hn
      exact hRR D s3.heap.objs.size s6 m H5 Iv7 qq hn (Iv3.fpOk (Nat.le_refl _) noC)
    · have titm := T.item (X.blk s3 H3 scope cEnv fp) rfl rfl rfl hc i [] s5 _ H5 (fun _ _ => False) Iv5 (stt Iv5 n5) sta5 go
      refine thnF titm fun r s6 ⟨u, hr, h6⟩ => ?_
      subst hr
      refine thnF h6 fun _ s7 ⟨x, H7, Iv7, r7, y7, sta7, n7⟩ => ?_
      have Iv7' := Iv7.pinned (stt Iv7 n7) (T.obj _ _ sta7)
      refine thnF (pg.run _ s7 _ H7 x u _ Iv7' r7 (step x H7 y7)) fun _ s8 ⟨σ8, H8, Iv8, hw8, q8⟩ => ?_
      refine thnF (pt.run _ s8 σ8 H8 _ Iv8 q8) fun b s9 ⟨H9, Iv9, q9⟩ => ?_
      -- the turn's end, from any slots that know what the block knew at its start
      have fin : ∀ {σ9 : St} {s' : Shared} {H' : Hp}, Inv (X.blk s3 H3 scope cEnv fp) ([] ++ pinsAt fp s7.heap) σ9 H' s' → (wipe σ (own.map (·.2))).length = σ9.length → (∀ (j : Nat) v, (wipe σ (own.map (·.2)))[j]? = some (some v) → σ9[j]? = some (some v)) → Nx H' →
          ∃ m, m < n ∧ ∃ i H', Inv (X.blk s3 H3 scope cEnv fp) [] (wipe σ (own.map (·.2))) H' s' ∧ tn i s'.heap ∧ (∀ b ∈ fp, H' b = none) ∧ W i m H' := fun {σ9 s' H'} I' hl hk nx => by
        obtain ⟨m', hm, w'⟩ := hNx H' nx
        have pinned1 : ∀ b ∈ fp, ∀ o, s7.heap.get? b = some o → s'.heap.get? b = some o ∧ H' b = none := fun b hb o e =>
          let z := I'.pin (b, o) (List.mem_append_right _ (List.mem_append_right _ (mem_pinsAt hb e)))
          ⟨z.1, z.2.1⟩
        refine ⟨m', hm, i + 1, H', (I'.unpinned (pins := [])).weak hl hk, T.keep _ _ _ sta7 fun b hb o e => (pinned1 b hb o e).1, fun b hb => ?_, w'⟩
        obtain ⟨o, e, _⟩ := T.obj _ _ sta7 b hb
        exact (pinned1 b hb o e).2
      have len8 : (wipe σ (own.map (·.2))).length = σ8.length := by rw [← hw8, wipe_length]
      have hk8 : ∀ (j : Nat) v, (wipe σ (own.map (·.2)))[j]? = some (some v) → σ8[j]? = some (some v) := fun j v e => by
        rw [← hw8] at e
        exact (wipe_some e).1
      have hk9 : ∀ (j : Nat) v, (wipe σ (own.map (·.2)))[j]? = some (some v) → (wipe σ8 vs1)[j]? = some (some v) := fun j v e => by
        rw [← hw8] at e
        obtain ⟨e1, e2⟩ := wipe_some e
        rw [wipe_out fun z => e2 (hv j z)]
        exact e1
      cases b with
      | false =>
        simp only [Bool.false_eq_true, if_false] at q9 ⊢
        exact fin Iv9 len8 hk8 q9
      | true =>
        simp only [if_true] at q9 ⊢
        refine thnF (pi1.run _ s9 σ8 H9 _ Iv9 q9) fun xv s10 hx => thnF hx fun itv s11 h11 => ?_
        obtain ⟨it1, fp1, tn1, J1, H11, e1, Iv11, Tb, sta11, f11, W1, ⟨m1, w1⟩, turnB⟩ := h11
        subst e1
        -- the inner loop
        have stat1 : ∀ {H' : Hp}, (∀ b ∈ fp1, H' b = none) → ∀ b ∈ fp1, FpOk (X.blk s3 H3 scope cEnv fp) ([] ++ pinsAt fp s7.heap) H' b := fun hn b hb => ⟨hn b hb, (f11 b hb).2⟩
        have loop1 : codeAny (model X.prog X.w) X.A (.compLoop (.DictComp kx vx [⟨tg, iter, ifs, 0⟩, ⟨tg1, iter1, ifs1, 0⟩] scope pos) 1 (.ref it1) (.ref D) cEnv)
            (fun r s' => match r with
              | .ok _ => ∃ m, m < n ∧ ∃ i H', Inv (X.blk s3 H3 scope cEnv fp) [] (wipe σ (own.map (·.2))) H' s' ∧ tn i s'.heap ∧ (∀ b ∈ fp, H' b = none) ∧ W i m H'
              | .error _ => False) s11 := by
          refine loopDict2_in (fun k s' => ∃ j H', Inv (X.blk s3 H3 scope cEnv fp) ([] ++ pinsAt fp s7.heap) (wipe σ8 vs1) H' s' ∧ tn1 j s'.heap ∧ (∀ b ∈ fp1, H' b = none) ∧ W1 j k H') ?_ m1 ⟨0, H11, Iv11.weak (wipe_length _ _) (fun j v e => (wipe_some e).1), sta11, fun b hb => (f11 b hb).1, w1⟩
          rintro k s12 ⟨j, H12, Iv12, sta12, n12, w12⟩
          rcases turnB j k H12 w12 with ⟨stop1, nx1⟩ | ⟨go1, Nx1, hNx1, step1⟩
          · refine thnF (Tb.done (X.blk s3 H3 scope cEnv fp) rfl rfl rfl hc j _ s12 (wipe σ8 vs1) H12 (fun _ _ => False) Iv12 (stat1 n12) sta12 stop1) fun r s13 ⟨hr, Iv13⟩ => ?_
            subst hr
            exact fin Iv13 (len8.trans (wipe_length σ8 vs1).symm) hk9 nx1
          · refine thnF (Tb.item (X.blk s3 H3 scope cEnv fp) rfl rfl rfl hc j _ s12 (wipe σ8 vs1) H12 (fun _ _ => False) Iv12 (stat1 n12) sta12 go1) fun r s13 ⟨u1, hr, h13⟩ => ?_
            subst hr
            refine thnF h13 fun _ s14 ⟨x1, H14, Iv14, r14, y14, sta14, n14⟩ => ?_
            have Iv14' := Iv14.pinned (stat1 n14) (Tb.obj _ _ sta14)
            refine thnF (pg1.run _ s14 (wipe σ8 vs1) H14 x1 u1 _ Iv14' r14 (step1 x1 H14 y14)) fun _ s15 ⟨σ15, H15, Iv15, hw15, q15⟩ => ?_
            refine thnF (pt1.run _ s15 σ15 H15 _ Iv15 q15) fun b1 s16 ⟨H16, Iv16, q16⟩ => ?_
            have fin1 : ∀ {s' : Shared} {H' : Hp}, Inv (X.blk s3 H3 scope cEnv fp) (([] ++ pinsAt fp s7.heap) ++ pinsAt fp1 s14.heap) σ15 H' s' → Nx1 H' → ∃ m, m < k ∧ ∃ j H', Inv (X.blk s3 H3 scope cEnv fp) ([] ++ pinsAt fp s7.heap) (wipe σ8 vs1) H' s' ∧ tn1 j s'.heap ∧ (∀ b ∈ fp1, H' b = none) ∧ W1 j m H' := fun {s' H'} I' nx => by
              obtain ⟨m', hm, w'⟩ := hNx1 H' nx
              have pinned1 : ∀ b ∈ fp1, ∀ o, s14.heap.get? b = some o → s'.heap.get? b = some o ∧ H' b = none := fun b hb o e =>
                let z := I'.pin (b, o) (List.mem_append_right _ (List.mem_append_right _ (mem_pinsAt hb e)))
                ⟨z.1, z.2.1⟩
              refine ⟨m', hm, j + 1, H', I'.unpinned.weak (by rw [← hw15, wipe_length]) (fun j v e => by rw [← hw15] at e; exact (wipe_some e).1), Tb.keep _ _ _ sta14 fun b hb o e => (pinned1 b hb o e).1, fun b hb => ?_, w'⟩
              obtain ⟨o, e, _⟩ := Tb.obj _ _ sta14 b hb
              exact (pinned1 b hb o e).2
            cases b1 with
            | false =>
              simp only [Bool.false_eq_true, if_false] at q16 ⊢
              exact fin1 Iv16 q16
            | true =>
              simp only [if_true] at q16 ⊢
              refine thnF (pe.run _ s16 σ15 H16 _ Iv16 q16) fun kz s17 ⟨yk, H17, Iv17, r17, q17⟩ => ?_
              refine thnF (pvx.run _ s17 σ15 H17 _ Iv17 q17) fun vz s18 ⟨yv, H18, Iv18, r18, kvs, k, c, ek, hc18, hD18, hz18, nx⟩ => ?_
              subst ek
              cases r17
              exact d_dictSetT (X := X.blk s3 H3 scope cEnv fp) hu Iv18 hD18 hc18 hz18 r18 fun s19 Iv19 => fin1 Iv19 nx
        exact startDict1 loop1 (Tb.self X.A 0 _ _ _ sta11 loop1)
  exact codeAny_compStart_dict loop (T.self X.A 0 _ _ _ sta4 loop)
theorem ps_setDc2 {i : Nat} {y : Str} {py : Pos} {kx vx tg iter tg1 iter1 : Expr} {ifs ifs1 : List Expr} {scope : Scope} {own : List (Str × Nat)} {vs1 : List Nat} {pos spos : Pos} {wi wi1 : TI} {g g1 : TG} {tt tt1 : TT} {tk tv : TE} (hc : X.calm = true) (hN : X.N.Nodup) (hy : X.N[i]? = some y) (hyl : X.env.scope.names.lookup y = some .local)
    (hsw : swapsWith (.DictComp kx vx [⟨tg, iter, ifs, 0⟩, ⟨tg1, iter1, ifs1, 0⟩] scope pos) (some (.Name y py)) spos.line X.env = pure true) (hi : PI X tg iter wi) (ok : BlkOk X.N X.env.scope scope own) (hv : ∀ i ∈ vs1, i ∈ own.map (·.2))
    (hg : ∀ (s : Shared) (H : Hp) (C : Addr) (cl : List (Str × Addr)) (fp : List Addr), PG (X.blk s H scope (compEnvC scope cl C X.env) fp) tg g) (ht : ∀ (s : Shared) (H : Hp) (C : Addr) (cl : List (Str × Addr)) (fp : List Addr), PTs (X.blk s H scope (compEnvC scope cl C X.env) fp) ifs tt)
    (hi1 : ∀ (s : Shared) (H : Hp) (C : Addr) (cl : List (Str × Addr)) (fp : List Addr), PI (X.blk s H scope (compEnvC scope cl C X.env) fp) tg1 iter1 wi1)
    (hg1 : ∀ (s : Shared) (H : Hp) (C : Addr) (cl : List (Str × Addr)) (fp : List Addr), PG (X.blk s H scope (compEnvC scope cl C X.env) fp) tg1 g1) (ht1 : ∀ (s : Shared) (H : Hp) (C : Addr) (cl : List (Str × Addr)) (fp : List Addr), PTs (X.blk s H scope (compEnvC scope cl C X.env) fp) ifs1 tt1)
    (he : ∀ (s : Shared) (H : Hp) (C : Addr) (cl : List (Str × Addr)) (fp : List Addr), PE (X.blk s H scope (compEnvC scope cl C X.env) fp) kx tk) (hu : X.A.units < cLine) (hvx : ∀ (s : Shared) (H : Hp) (C : Addr) (cl : List (Str × Addr)) (fp : List Addr), PE (X.blk s H scope (compEnvC scope cl C X.env) fp) vx tv) (hs : ∀ x, foldedSetIterable iter X.env x = pure x := by intro _; rfl) (hs1 : ∀ env x, foldedSetIterable iter1 env x = pure x := by intro _ _; rfl) :
    PS X (.Assign [.Name y py] (.DictComp kx vx [⟨tg, iter, ifs, 0⟩, ⟨tg1, iter1, ifs1, 0⟩] scope pos) spos) (tAsg (tDc2 wi g tt wi1 g1 tt1 tk tv (own.map (·.2)) vs1) (gName i)) := by
  refine ⟨fun pins s σ H D I h => ?_⟩
  rw [exec_Assign_Name_used _ _ _ _ hsw]
  refine wpAny_bind (wpAny_standAt (wpAny_bind ?_))
  show wpAny _ X.A (do let _ ← comprehension (.DictComp kx vx [⟨tg, iter, ifs, 0⟩, ⟨tg1, iter1, ifs1, 0⟩] scope pos) scope X.env (firstIterPos [⟨tg, iter, ifs, 0⟩, ⟨tg1, iter1, ifs1, 0⟩] pos) (newDict) false (eval iter X.env) (some (assign (.Name y py) X.env))) _ _ s
  have h : tDc2 wi g tt wi1 g1 tt1 tk tv (own.map (·.2)) vs1 σ H (fun x H1 => gName i x σ H1 D.nx) := h
  refine wpAny_bind (thn (coreDc2 (Qf := fun _ s' => SP X pins D .next s') hc hN I hi ok hv hg ht he hu hvx hs hi1 hg1 ht1 hs1 h fun L C s' m H' I' q hn f => ?_) fun _ s' hq => wpAny_pure (wpAny_pure hq))
  show wpAny _ _ (assign (.Name y py) X.env (.ref L)) _ _ _
  refine wpAny_assign_Name (store_ok2 (v := V.ref L) I' hN hy (.inl hyl) rfl (fun s2 Iv2 ⟨a, sb, ha⟩ => ?_) (.inr hyl))
  obtain ⟨fa0, fa1, fa2, fa3, fa4, fa5⟩ := f
  have neC : C ≠ a := by
    rcases ha with z | z
    · rw [z]; exact fa1
    · exact fun e => fa4 y a z e.symm
  refine ⟨m, hn.sameBut sb neC, fun h3 sb3 => ?_⟩
  exact ⟨_, H', Iv2.turned (t' := s2.toks) (fun b o hb e => (sb3.2 b hb).trans e) fa0 fa1 fa3 fa4 fa5, q⟩
end
section
variable {X : Cx}
theorem psSetDc1 {i : Nat} {y : Str} {py : Pos} {kx vx tg iter : Expr} {ifs : List Expr} {scope : Scope} {own : List (Str × Nat)} {pos spos : Pos} {wi : TI} {g : TG} {tt : TT} {tk tv : TE} (hc : X.calm = true) (hN : X.N.Nodup) (hy : X.N[i]? = some y) (hyl : X.env.scope.names.lookup y = some .local)
    (hsw : swapsWith (.DictComp kx vx [⟨tg, iter, ifs, 0⟩] scope pos) (some (.Name y py)) spos.line X.env = pure true) (hi : PI X tg iter wi) (ok : BlkOk X.N X.env.scope scope own)
    (hg : ∀ (s : Shared) (H : Hp) (C : Addr) (cl : List (Str × Addr)) (fp : List Addr), PG (X.blk s H scope (compEnvC scope cl C X.env) fp) tg g) (ht : ∀ (s : Shared) (H : Hp) (C : Addr) (cl : List (Str × Addr)) (fp : List Addr), PTs (X.blk s H scope (compEnvC scope cl C X.env) fp) ifs tt)
    (he : ∀ (s : Shared) (H : Hp) (C : Addr) (cl : List (Str × Addr)) (fp : List Addr), PE (X.blk s H scope (compEnvC scope cl C X.env) fp) kx tk) (hvx : ∀ (s : Shared) (H : Hp) (C : Addr) (cl : List (Str × Addr)) (fp : List Addr), PE (X.blk s H scope (compEnvC scope cl C X.env) fp) vx tv) (hs : ∀ x, foldedSetIterable iter X.env x = pure x := by intro _; rfl) :
    PS X (.Assign [.Name y py] (.DictComp kx vx [⟨tg, iter, ifs, 0⟩] scope pos) spos) (tAsg (tDc wi g tt tk tv (own.map (·.2))) (gName i)) := by
  refine ⟨fun pins s σ H D I h => ?_⟩
  rw [exec_Assign_Name_used _ _ _ _ hsw]
  refine wpAny_bind (wpAny_standAt (wpAny_bind ?_))
  show wpAny _ X.A (do let _ ← comprehension (.DictComp kx vx [⟨tg, iter, ifs, 0⟩] scope pos) scope X.env (firstIterPos [⟨tg, iter, ifs, 0⟩] pos) (newDict) false (eval iter X.env) (some (assign (.Name y py) X.env))) _ _ s
  have h : tDc wi g tt tk tv (own.map (·.2)) σ H (fun x H1 => gName i x σ H1 D.nx) := h
  refine wpAny_bind (thn (dc_core (Qf := fun _ s' => SP X pins D .next s') hc hN I hi ok hg ht he hvx hs h fun L C s' m H' I' q hn f => ?_) fun _ s' hq => wpAny_pure (wpAny_pure hq))
  show wpAny _ _ (assign (.Name y py) X.env (.ref L)) _ _ _
  refine wpAny_assign_Name (store_ok2 (v := V.ref L) I' hN hy (.inl hyl) rfl (fun s2 Iv2 ⟨a, sb, ha⟩ => ?_) (.inr hyl))
  obtain ⟨fa0, fa1, fa2, fa3, fa4, fa5⟩ := f
  have neC : C ≠ a := by
    rcases ha with z | z
    · rw [z]; exact fa1
    · exact fun e => fa4 y a z e.symm
  refine ⟨m, hn.sameBut sb neC, fun h3 sb3 => ?_⟩
  exact ⟨_, H', Iv2.turned (t' := s2.toks) (fun b o hb e => (sb3.2 b hb).trans e) fa0 fa1 fa3 fa4 fa5, q⟩
theorem swD_true {kx vx : Expr} {gs : List Comprehension} {scope : Scope} {pos py : Pos} {y : Str} {l : Nat} {env : Env} (hk : env.scope.kind = .function) (hy : env.scope.names.lookup y = some .local) (hl : (py.line == pos.line) = true)
    (ha : (scope.names.any fun (n, k) => n == y && (k == .local || k == .cell)) = false) : swapsWith (.DictComp kx vx gs scope pos) (some (.Name y py)) l env = pure true := by
  have kyy : env.kindOf y = some .local := hy
  have hb : env.blockKind = .function := by unfold Env.blockKind; rw [hk]; rfl
  unfold swapsWith
  simp only [hb, kyy, ha, Expr.pos, hl]
  rfl
end
end L2.DC
end
section
set_option Elab.async false
set_option maxRecDepth 100000
namespace DL
open PySem L2 L2.DC

/-! ### dict comprehensions -/
section
variable {K : PySem.W.Frag} {B S1 T : Hs} {σ : St} {ρ : Env} {D : Addr} {o o' : HO}
/-- the pinned object D stands otherwise now -/
theorem RepS.repin (r' : RepS K ⟨S1.d, upd B.h D o⟩ T σ ρ) (hd1 : S1.d D = none) : RepS K ⟨S1.d, upd B.h D o'⟩ ⟨T.d, upd T.h D o'⟩ σ ρ := by
  have td : T.d D = none := r'.gr.nw D (by show upd B.h D o D ≠ none; rw [upd_same]; exact nofun) hd1
  have nd : ∀ j, D ∉ (ρ.getD j .no).ads := fun j hj => by
    have := (r'.own j D hj).2
    change upd B.h D o D = none at this
    rw [upd_same] at this
    cases this
  refine ⟨⟨r'.gr.dd, fun a u e => ?_, r'.gr.dh.mut td, fun a h1 h2 => ?_⟩, r'.len, fun j => (r'.at_ j).frame (Ex.refl _) fun a ha u hu => ?_, r'.ap, fun j a ha => ⟨(r'.own j a ha).1, ?_⟩⟩
  · change upd B.h D o' a = some u at e
    change upd T.h D o' a = some u
    by_cases q : a = D
    · subst q
      rw [upd_same] at e ⊢
      exact e
    · rw [upd_ne q] at e ⊢
      exact r'.gr.hh a u (by show upd B.h D o a = some u; rw [upd_ne q]; exact e)
  · by_cases q : a = D
    · rw [q]
      exact td
    · refine r'.gr.nw a ?_ h2
      change upd B.h D o' a ≠ none at h1
      rw [upd_ne q] at h1
      show upd B.h D o a ≠ none
      rw [upd_ne q]
      exact h1
  · have q : a ≠ D := fun z => nd j (z ▸ ha)
    change upd T.h D o' a = some u
    rw [upd_ne q]
    exact hu
  · have q : a ≠ D := fun z => nd j (z ▸ ha)
    have := (r'.own j a ha).2
    change upd B.h D o a = none at this
    rw [upd_ne q] at this
    show upd B.h D o' a = none
    rw [upd_ne q]
    exact this
/-- a new object D, pinned, as a block starts -/
theorem RepS.pinNew (r1 : RepS K B S1 σ ρ) (hD : S1.h D = none) (vs : List Nat) : RepS K ⟨S1.d, upd B.h D o⟩ ⟨S1.d, upd S1.h D o⟩ (L2.wipe σ vs) (wipeD ρ vs) := by
  have hd1 : S1.d D = none := r1.gr.dh.back hD
  have hb1 : B.h D = none := r1.gr.hh.back hD
  have r2 : RepS K B ⟨S1.d, upd S1.h D o⟩ σ ρ := r1.grow (Grow.own r1.gr.dh hD)
  have q := r2.wipe vs
  have nD : ∀ j, D ∉ ((wipeD ρ vs).getD j .no).ads := fun j hj => by
    by_cases hv : j ∈ vs
    · rw [wipeD_in hv] at hj
      cases hj
    · rw [List.getD_eq_getElem?_getD, wipeD_out hv, ← List.getD_eq_getElem?_getD] at hj
      exact r1.noAds hD j hj
  refine ⟨upd_base r2.gr hd1 hb1 upd_same, q.len, q.at_, q.ap, fun j a ha => ⟨(q.own j a ha).1, ?_⟩⟩
  have ne : a ≠ D := fun z => nD j (z ▸ ha)
  show upd B.h D o a = none
  rw [upd_ne ne]
  exact (q.own j a ha).2
/-- behind the block -/
theorem RepS.pinEnd {ρ' : Env} (r1 : RepS K B S1 σ ρ) (hD : S1.h D = none) {vs : List Nat} (rT : RepS K ⟨S1.d, upd B.h D o⟩ T (L2.wipe σ vs) ρ') (hads : ∀ i ∈ vs, (ρ.getD i .no).ads = []) :
    RepS K B T σ (mergeD ρ ρ' vs) ∧ T.h D = some o ∧ T.d D = none ∧ B.h D = none ∧ ∀ j, D ∉ ((mergeD ρ ρ' vs).getD j .no).ads := by
  have hd1 : S1.d D = none := r1.gr.dh.back hD
  have hb1 : B.h D = none := r1.gr.hh.back hD
  obtain ⟨rT', h1, h2, h3⟩ := RepS.unpin r1.gr rT hd1 hb1
  refine ⟨rT'.merge fun i hv => ⟨(r1.at_ i).frame rT.gr.dd (fun a ha => by
      rw [hads i hv] at ha
      cases ha), hads i hv⟩, h1, h2, hb1, fun j hj => ?_⟩
  by_cases hv : j ∈ vs
  · have : ((mergeD ρ ρ' vs).getD j .no).ads = [] := by
      by_cases hl : j < ρ'.length
      · rw [mergeD_in hl hv]
        exact hads j hv
      · rw [List.getD_eq_getElem?_getD, List.getElem?_eq_none (by rw [mergeD_length]; omega)]
        rfl
    rw [this] at hj
    cases hj
  · rw [List.getD_eq_getElem?_getD, mergeD_out hv, ← List.getD_eq_getElem?_getD] at hj
    exact h3 j hj
end
section
variable {X : Cx}
/-- {x: True for x in xs}, the keys all different -/
def dKc (ι : DTA) (v : Nat) : DTF := fun ρ k => ι ρ fun xs ρ1 => ∃ ks : List Key, xs = ks.map keyD ∧ ks.Nodup ∧ ks.length ≤ 1000000 ∧ (ρ1.getD v .no).ads = [] ∧ v < ρ1.length ∧ ∀ l, k (.dK l ks) ρ1
theorem ite_yes {σ : St} {H : Hp} {p q : Hp → Prop} (h : p H) : tYes σ H fun b H3 => if b = true then p H3 else q H3 := h
theorem valK_none {k : Key} {ks : List Key} (h : k ∉ ks) : valV (ks.map fun k => (k, V.bl true)) k = none := by
  have h1 := valK_some k ks
  have h2 : hasK ks k = false := by
    unfold hasK
    rw [List.any_eq_false]
    intro j hj e
    exact h (of_decide_eq_true e ▸ hj)
  rw [h2] at h1
  cases e : valV (ks.map fun k => (k, V.bl true)) k with
  | none => rfl
  | some x =>
    rw [e] at h1
    cases h1
theorem wipe1 {σ : St} {v : Nat} {u : V} : L2.wipe ((L2.wipe σ [v]).set v (some u)) [v] = L2.wipe σ [v] := by
  show ((σ.set v none).set v (some u)).set v none = σ.set v none
  rw [List.set_set, List.set_set]
theorem wipeD1 {ρ : Env} {v : Nat} {s : Slot} : wipeD ((wipeD ρ [v]).set v s) [v] = wipeD ρ [v] := by
  show ((ρ.set v .no).set v s).set v .no = ρ.set v .no
  rw [List.set_set, List.set_set]
theorem lift_dKc {ι : DTA} {v : Nat} : ∀ σ H Q, tDF X.K (dKc ι v) σ H Q → tDc (tDI X.K ι) (gName v) tYes (tVar v) (tC (.bl true)) [v] σ H Q := by
  intro σ H Q h
  obtain ⟨B, S, ρ, k, rfl, r, h, c⟩ := h
  refine ⟨B, S, ρ, _, rfl, r, h, fun xs ρ1 S1 J e1 r1 wk h1 D hD => ?_⟩
  obtain ⟨ks, rfl, nd, hz, hads, hv, done⟩ := h1
  have hd1 : S1.d D = none := r1.gr.dh.back hD
  let kv : List Key → List (Key × V) := fun ks => ks.map fun k => (k, V.bl true)
  let Sta : Nat → Hp → Hs → Prop := fun i H T => H = T.h ∧ RepS X.K ⟨S1.d, upd B.h D (.dK (kv (ks.take i)))⟩ T (L2.wipe σ [v]) (wipeD ρ1 [v])
  refine ⟨fun i m H => m = ks.length - i ∧ i ≤ ks.length ∧ ∃ T, Sta i H T, ⟨ks.length, by simp, Nat.zero_le _, _, rfl, r1.pinNew hD [v]⟩, ?_⟩
  rintro i m H ⟨rfl, hi, T, rfl, rT⟩
  have hT : T.h D = some (.dK (kv (ks.take i))) := rT.gr.hh D _ upd_same
  have wk2 := wk T rT.gr.dd rT.gr.dh i
  by_cases hlt : i < ks.length
  · obtain ⟨go, yd⟩ := wk2.2 (keyD ks[i]) (by simp [hlt])
    refine .inr ⟨go, fun H => ∃ T, Sta (i + 1) H T, fun H' n' => ⟨ks.length - (i + 1), by omega, rfl, hlt, n'⟩, fun u H' y => ?_⟩
    obtain ⟨T', rfl, g, q⟩ := yd u H' y
    obtain rfl : u = kV ks[i] := rep_key q
    have hvs : v < (L2.wipe σ [v]).length := by
      rw [wipe_length, r1.len]
      exact hv
    refine ⟨wipe1, ?_⟩
    refine ite_yes ?_
    refine ⟨kV ks[i], by rw [List.getElem?_set_self hvs], ?_⟩
    have rT2 := rT.grow g
    have hT2 : T'.h D = some (.dK (kv (ks.take i))) := rT2.gr.hh D _ upd_same
    have hnew : valV (kv (ks.take i)) ks[i] = none := valK_none fun hm => by
      obtain ⟨j, hj, ej⟩ := List.mem_iff_getElem.mp hm
      rw [List.getElem_take] at ej
      rw [List.length_take] at hj
      have hne := (List.getElem_inj (xs := ks) (i := j) (j := i) (h₀ := by omega) (h₁ := hlt) nd).mp ej
      omega
    refine ⟨kv (ks.take i), ks[i], rfl, hT2, by show (List.map _ _).length < _; rw [List.length_map, List.length_take, sizeLine_eq]; omega, ⟨T'.d, upd T'.h D (.dK (kv (ks.take (i + 1))))⟩, ?_, ?_⟩
    · show upd T'.h D _ = upd T'.h D _
      rw [putK_new _ hnew]
      show upd T'.h D (.dK (List.map _ _ ++ _)) = upd T'.h D (.dK (List.map _ _))
      rw [List.take_add_one, List.getElem?_eq_getElem hlt, List.map_append]
      rfl
    · exact rT2.repin hd1
  · have e : i = ks.length := by omega
    subst e
    refine .inl ⟨wk2.1 (by simp), ?_⟩
    obtain ⟨rf, f1, f2, f3, f4⟩ := r1.pinEnd hD rT (vs := [v]) fun i hi => by
      have : i = v := by simpa using hi
      rw [this]
      exact hads
    have em : mergeD ρ1 (wipeD ρ1 [v]) [v] = ρ1 := merge_wipe ρ1 [v]
    rw [em] at rf f4
    rw [List.take_of_length_le (Nat.le_refl _)] at f1
    refine c (.ref D) (.dK D ks) ρ1 T (e1.trans rT.gr.dd) rf ⟨rfl, f1⟩ (fun a ha => ?_) (done D)
    have ha : a = D := by simpa [Slot.ads] using ha
    subst ha
    exact ⟨f4, f2, f3⟩
theorem ds_setDK {i v : Nat} {x y : Str} {py spos px pk qb pc : Pos} {jb : Nat} {iter : Expr} {scope : Scope} {ι : DTA} (hc : X.calm = true) (hN : X.N.Nodup) (hy : X.N[i]? = some y) (hyl : X.env.scope.names.lookup y = some .local)
    (hsw : swapsWith (.DictComp (.Name x pk) (.Constant (.bool true) jb qb) [⟨.Name x px, iter, [], 0⟩] scope pc) (some (.Name y py)) spos.line X.env = pure true) (hi : PI X (.Name x px) iter (tDI X.K ι)) (ok : BlkOk X.N X.env.scope scope [(x, v)])
    (hg : ∀ (s : Shared) (H : Hp) (C : Addr) (cl : List (Str × Addr)) (fp : List Addr), PG (X.blk s H scope (compEnvC scope cl C X.env) fp) (.Name x px) (gName v))
    (hk : ∀ (s : Shared) (H : Hp) (C : Addr) (cl : List (Str × Addr)) (fp : List Addr), PE (X.blk s H scope (compEnvC scope cl C X.env) fp) (.Name x pk) (tVar v))
    (hs : ∀ x, foldedSetIterable iter X.env x = pure x := by intro _; rfl) :
    PS X (.Assign [.Name y py] (.DictComp (.Name x pk) (.Constant (.bool true) jb qb) [⟨.Name x px, iter, [], 0⟩] scope pc) spos) (tDS X.K (dSetF i (dKc ι v))) :=
  PS.weak (psSetDc1 (own := [(x, v)]) hc hN hy hyl hsw hi ok hg (fun _ _ _ _ _ => pts_nil) hk (fun _ _ _ _ _ => pe_bl) hs) (lift_setF lift_dKc)

/-! two clauses -/
/-- the dict made, turn by turn -/
def innM (p : PyData → PyData → Bool) (kf : PyData → PyData → List Key) (g : PyData → PyData → PyData) (x : PyData) (ys : List PyData) (m : KMap) : KMap := ys.foldl (fun m y => if p x y = true then putM m (kf x y) (g x y) else m) m
def outM (p : PyData → PyData → Bool) (kf : PyData → PyData → List Key) (g : PyData → PyData → PyData) (ys xs : List PyData) : KMap := xs.foldl (fun m x => innM p kf g x ys m) []
/-- {(..): .. for x in xs for y in ys if ..} -/
def dDT (ι : DTA) (v : Nat) (ι1 : DTA) (v1 : Nat) (τ : DTT) (ω : DTA) (ε : DTE) : DTF := fun ρ k => ι ρ fun xs ρ1 => ∃ (ys : List PyData) (p : PyData → PyData → Bool) (kf : PyData → PyData → List Key) (g : PyData → PyData → PyData),
  xs.length * ys.length ≤ 1000000 ∧ (∀ i ∈ [v, v1], (ρ1.getD i .no).ads = [] ) ∧
  (∀ x ∈ xs, ι1 ((wipeD ρ1 [v, v1]).set v (.dat x)) fun ys' ρ3 => ys' = ys ∧ ρ3 = (wipeD ρ1 [v, v1]).set v (.dat x)) ∧
  (∀ x ∈ xs, ∀ y ∈ ys, τ ((wipeD ((wipeD ρ1 [v, v1]).set v (.dat x)) [v1]).set v1 (.dat y)) fun b ρ5 => b = p x y ∧ ρ5 = (wipeD ((wipeD ρ1 [v, v1]).set v (.dat x)) [v1]).set v1 (.dat y) ∧
    (b = true → ω ρ5 fun ks ρ6 => ks.length ≤ 1000 ∧ ks = (kf x y).map keyD ∧ ρ6 = ρ5 ∧ ε ρ6 fun z ρ7 => z = g x y ∧ ρ7 = ρ5)) ∧
  ∀ l, k (.dT l ((outM p kf g ys xs).map encKV)) ρ1
theorem putM_len (m : KMap) (k : List Key) (d : PyData) : (putM m k d).length ≤ m.length + 1 := by
  unfold putM
  split
  · rw [List.length_map]; omega
  · rw [List.length_append]; simp
theorem wipe_set2 {σ : St} {v v1 : Nat} {u : V} : L2.wipe ((L2.wipe σ [v, v1]).set v (some u)) [v, v1] = L2.wipe σ [v, v1] := by
  show ((((σ.set v1 none).set v none).set v (some u)).set v1 none).set v none = (σ.set v1 none).set v none
  apply List.ext_getElem?
  intro i
  simp only [List.getElem?_set, List.length_set]
  by_cases h1 : v = i <;> by_cases h2 : v1 = i <;> simp [h1, h2]
theorem lift_dDT {ι ι1 : DTA} {v v1 : Nat} {τ : DTT} {ω : DTA} {ε : DTE} : ∀ σ H Q, tDF X.K (dDT ι v ι1 v1 τ ω ε) σ H Q → tDc2 (tDI X.K ι) (gName v) tYes (tDI X.K ι1) (gName v1) (tDT X.K τ) (tTup (tDA X.K ω)) (tD X.K ε) [v, v1] [v1] σ H Q := by
  intro σ H Q h
  obtain ⟨B, S, ρ, k, rfl, r, h, c⟩ := h
  refine ⟨B, S, ρ, _, rfl, r, h, fun xs ρ1 S1 J e1 r1 wk h1 D hD => ?_⟩
  obtain ⟨ys, p, kf, g, hz, hads, hi1, hin, done⟩ := h1
  have hd1 : S1.d D = none := r1.gr.dh.back hD
  let base : List (List Key × V) → Hs := fun kvs => ⟨S1.d, upd B.h D (.dT kvs)⟩
  have atD : ∀ {kvs : List (List Key × V)} {T : Hs} {σ' : St} {ρ' : Env}, RepS X.K (base kvs) T σ' ρ' → T.h D = some (.dT kvs) := fun r => r.gr.hh D _ upd_same
  refine ⟨fun i m H => m = xs.length - i ∧ i ≤ xs.length ∧ ∃ T kvs, H = T.h ∧ RepS X.K (base kvs) T (L2.wipe σ [v, v1]) (wipeD ρ1 [v, v1]) ∧ RepKV X.K T.d kvs ((outM p kf g ys (xs.take i)).map encKV) ∧ kvs.length ≤ i * ys.length,
    ⟨xs.length, by simp, Nat.zero_le _, _, [], rfl, r1.pinNew hD [v, v1], .nil, by simp⟩, ?_⟩
  rintro i m H ⟨rfl, hi, T, kvs, rfl, rT, hkv, hlen⟩
  have wk2 := wk T rT.gr.dd rT.gr.dh i
  by_cases hlt : i < xs.length
  · obtain ⟨go, yd⟩ := wk2.2 xs[i] (by simp [hlt])
    have hxm : xs[i] ∈ xs := List.getElem_mem hlt
    have hml : (i + 1) * ys.length ≤ 1000000 := Nat.le_trans (Nat.mul_le_mul_right _ hlt) hz
    have hmul : (i + 1) * ys.length = i * ys.length + ys.length := Nat.succ_mul _ _
    refine .inr ⟨go, fun H => i + 1 ≤ xs.length ∧ ∃ T kvs, H = T.h ∧ RepS X.K (base kvs) T (L2.wipe σ [v, v1]) (wipeD ρ1 [v, v1]) ∧ RepKV X.K T.d kvs ((outM p kf g ys (xs.take (i + 1))).map encKV) ∧ kvs.length ≤ (i + 1) * ys.length,
      fun H' n' => ⟨xs.length - (i + 1), by omega, rfl, n'.1, n'.2⟩, fun u H' y => ?_⟩
    obtain ⟨T', rfl, g1, q⟩ := yd u H' y
    refine ⟨wipe_set2, ?_⟩
    refine ite_yes ?_
    have rT2 : RepS X.K (base kvs) T' ((L2.wipe σ [v, v1]).set v (some u)) ((wipeD ρ1 [v, v1]).set v (.dat xs[i])) := (rT.grow g1).setDat v q
    refine ⟨base kvs, T', _, _, rfl, rT2, hi1 _ hxm, fun ys' ρ3 S3 J1 e3 r3 wk3 h3 => ?_⟩
    obtain ⟨rfl, rfl⟩ := h3
    have hkv3 : RepKV X.K S3.d kvs ((outM p kf g ys' (xs.take i)).map encKV) := (hkv.mono g1.dd).mono e3
    refine ⟨fun j m H => m = ys'.length - j ∧ j ≤ ys'.length ∧ ∃ T kvs, H = T.h ∧ Ex S3.d T.d ∧ RepS X.K (base kvs) T (L2.wipe ((L2.wipe σ [v, v1]).set v (some u)) [v1]) (wipeD ((wipeD ρ1 [v, v1]).set v (.dat xs[i])) [v1]) ∧
        RepKV X.K T.d kvs ((innM p kf g xs[i] (ys'.take j) (outM p kf g ys' (xs.take i))).map encKV) ∧ kvs.length ≤ i * ys'.length + j,
      ⟨ys'.length, by simp, Nat.zero_le _, S3, kvs, rfl, Ex.refl _, r3.wipe [v1], hkv3, by omega⟩, ?_⟩
    rintro j m H ⟨rfl, hj, T4, kvs4, rfl, e4, r4, hkv4, hlen4⟩
    have wk4 := wk3 T4 e4 r4.gr.dh j
    by_cases hjl : j < ys'.length
    · obtain ⟨go1, yd1⟩ := wk4.2 ys'[j] (by simp [hjl])
      have hym : ys'[j] ∈ ys' := List.getElem_mem hjl
      refine .inr ⟨go1, fun H => ∃ T kvs, H = T.h ∧ Ex S3.d T.d ∧ RepS X.K (base kvs) T (L2.wipe ((L2.wipe σ [v, v1]).set v (some u)) [v1]) (wipeD ((wipeD ρ1 [v, v1]).set v (.dat xs[i])) [v1]) ∧
        RepKV X.K T.d kvs ((innM p kf g xs[i] (ys'.take (j + 1)) (outM p kf g ys' (xs.take i))).map encKV) ∧ kvs.length ≤ i * ys'.length + (j + 1), fun H' n' => ⟨ys'.length - (j + 1), by omega, rfl, hjl, n'⟩, fun u1 H5 y1 => ?_⟩
      obtain ⟨T5, rfl, g5, q5⟩ := yd1 u1 H5 y1
      refine ⟨wipe1, ?_⟩
      have r5 : RepS X.K (base kvs4) T5 ((L2.wipe ((L2.wipe σ [v, v1]).set v (some u)) [v1]).set v1 (some u1)) ((wipeD ((wipeD ρ1 [v, v1]).set v (.dat xs[i])) [v1]).set v1 (.dat ys'[j])) := (r4.grow g5).setDat v1 q5
      have back : ∀ {kvs : List (List Key × V)} {T : Hs}, RepS X.K (base kvs) T ((L2.wipe ((L2.wipe σ [v, v1]).set v (some u)) [v1]).set v1 (some u1)) ((wipeD ((wipeD ρ1 [v, v1]).set v (.dat xs[i])) [v1]).set v1 (.dat ys'[j])) →
          RepS X.K (base kvs) T (L2.wipe ((L2.wipe σ [v, v1]).set v (some u)) [v1]) (wipeD ((wipeD ρ1 [v, v1]).set v (.dat xs[i])) [v1]) := fun r => by
        have z := r.wipe [v1]
        rwa [wipe1, wipeD1] at z
      have step : ∀ b, p xs[i] ys'[j] = b → innM p kf g xs[i] (ys'.take (j + 1)) (outM p kf g ys' (xs.take i)) =
          if b = true then putM (innM p kf g xs[i] (ys'.take j) (outM p kf g ys' (xs.take i))) (kf xs[i] ys'[j]) (g xs[i] ys'[j]) else innM p kf g xs[i] (ys'.take j) (outM p kf g ys' (xs.take i)) := fun b hb => by
        unfold innM
        rw [List.take_add_one, List.getElem?_eq_getElem hjl, List.foldl_append]
        show (if p xs[i] ys'[j] = true then _ else _) = _
        rw [hb]
      refine ⟨base kvs4, T5, _, _, rfl, r5, hin _ hxm _ hym, fun b ρ6 S6 e6 r6 h6 => ?_⟩
      obtain ⟨hb, rfl, h6⟩ := h6
      cases b with
      | false =>
        refine ⟨S6, kvs4, rfl, e4.trans (g5.dd.trans e6), back r6, ?_, by omega⟩
        rw [step false hb.symm]
        exact hkv4.mono (g5.dd.trans e6)
      | true =>
        refine ⟨base kvs4, S6, _, _, rfl, r6, h6 rfl, fun vs ks ρ7 S7 e7 r7 q7 h7 => ?_⟩
        obtain ⟨hkl, rfl, rfl, h7⟩ := h7
        refine ⟨by rw [q7.length, sizeLine_eq]; omega, fun c hc => ?_⟩
        have g8 := Grow.both (S := S7) (o := .tup vs) r7.gr.dh hc
        refine ⟨base kvs4, ⟨_, _⟩, _, _, rfl, r7.grow g8, h7, fun w z ρ9 S9 e9 r9 q9 h9 => ?_⟩
        obtain ⟨rfl, rfl⟩ := h9
        have hc9 : S9.h c = some (.tup ((kf xs[i] ys'[j]).map kV)) := by
          rw [← keys_kV q7]
          exact r9.gr.dh c _ (e9 c _ upd_same)
        have ee : Ex T4.d S9.d := (g5.dd.trans e6).trans (e7.trans (g8.dd.trans e9))
        refine ⟨kvs4, _, c, rfl, hc9, atD r9, by rw [sizeLine_eq]; omega, ⟨S9.d, upd S9.h D (.dT (putK kvs4 (kf xs[i] ys'[j]) w))⟩, _, rfl, e4.trans ee, back (r9.repin hd1), ?_, ?_⟩
        · rw [step true hb.symm, if_pos rfl]
          exact ((kvm_of (hkv4.mono ee)).put q9).rep
        · have := length_putK kvs4 (kf xs[i] ys'[j]) w
          omega
    · have e : j = ys'.length := by omega
      subst e
      refine .inl ⟨wk4.1 (Nat.le_refl _), hlt, T4, kvs4, rfl, ?_, ?_, by omega⟩
      · have z := r4.wipe [v]
        have e1 : L2.wipe (L2.wipe ((L2.wipe σ [v, v1]).set v (some u)) [v1]) [v] = L2.wipe σ [v, v1] := wipe_set2
        have e2 : wipeD (wipeD ((wipeD ρ1 [v, v1]).set v (.dat xs[i])) [v1]) [v] = wipeD ρ1 [v, v1] := by
          show ((((ρ1.set v1 .no).set v .no).set v (.dat xs[i])).set v1 .no).set v .no = (ρ1.set v1 .no).set v .no
          apply List.ext_getElem?
          intro i
          simp only [List.getElem?_set, List.length_set]
          by_cases h1 : v = i <;> by_cases h2 : v1 = i <;> simp [h1, h2]
        rwa [e1, e2] at z
      · have : outM p kf g ys' (xs.take (i + 1)) = innM p kf g xs[i] ys' (outM p kf g ys' (xs.take i)) := by
          unfold outM
          rw [List.take_add_one, List.getElem?_eq_getElem hlt, List.foldl_append]
          rfl
        rw [this]
        rwa [List.take_of_length_le (Nat.le_refl _)] at hkv4
  · have e : i = xs.length := by omega
    subst e
    refine .inl ⟨wk2.1 (Nat.le_refl _), ?_⟩
    obtain ⟨rf, f1, f2, f3, f4⟩ := r1.pinEnd hD rT (vs := [v, v1]) hads
    rw [merge_wipe] at rf f4
    rw [List.take_of_length_le (Nat.le_refl _)] at hkv
    refine c (.ref D) (.dT D _) ρ1 T (e1.trans rT.gr.dd) rf ⟨rfl, kvs, f1, hkv⟩ (fun a ha => ?_) (done D)
    have ha : a = D := by simpa [Slot.ads] using ha
    subst ha
    exact ⟨f4, f2, f3⟩
end
end DL
end
section
set_option Elab.async false
set_option maxRecDepth 100000
namespace DL
open PySem L2 L2.DC

/-! ### the script -/
def scrD (ns : List Int) : PyData := .dict [(.none, .list (ns.map .int))]
theorem map_inj {α β : Type} {f : α → β} (hf : ∀ a b, f a = f b → a = b) : ∀ {xs ys : List α}, xs.map f = ys.map f → xs = ys
  | [], [], _ => rfl
  | [], _ :: _, h => by cases h
  | _ :: _, [], h => by cases h
  | a :: xs, b :: ys, h => by
    rw [List.map_cons, List.map_cons, List.cons.injEq] at h
    rw [hf a b h.1, map_inj hf h.2]
theorem scr_inj {ns ms : List Int} (h : scrD ns = scrD ms) : ns = ms := by
  have h1 : (ns.map PyData.int) = ms.map PyData.int := by
    unfold scrD at h
    simpa using h
  have inj : ∀ a b : Int, PyData.int a = PyData.int b → a = b := fun a b e => by cases e; rfl
  exact map_inj inj h1
theorem rep_scr {K : PySem.W.Frag} {H : Hp} {v : V} {ns : List Int} (q : Rep K H v (scrD ns)) : ∃ a, v = .ref a ∧ SqL K H a (ns.map V.int) := by
  generalize hd : scrD ns = d at q
  cases q with
  | @scr a ms h => exact ⟨a, rfl, scr_inj (ns := ms) (ms := ns) (by rw [hd]; rfl) ▸ h⟩
  | @dT a kvs es h r =>
    exfalso
    unfold scrD at hd
    cases hd
    cases r
  | _ => exact absurd hd nofun
section
variable {X : Cx} {a b e : Expr} {es : List Expr} {α β : DTE} {ω : DTA} {pos p q : Pos} {x : Str}
def dLenScr : DRn := fun xs k => ∃ ns : List Int, xs = [scrD ns] ∧ k (.int ns.length)
theorem l_lenScr {K : PySem.W.Frag} : LiftN K (rLenS K) dLenScr := by
  rintro S vs xs k Q e q ⟨ns, rfl, hk⟩ o
  cases q with
  | cons q1 q2 =>
    cases q2
    obtain ⟨p, rfl, hs⟩ := rep_scr q1
    refine ⟨p, _, rfl, .inl (e.sqL hs), ?_⟩
    rw [List.length_map]
    exact o.mk e (.int _) hk
def dIxScr : DR2 := fun x y k => ∃ ns : List Int, ∃ i : Nat, ∃ z, x = scrD ns ∧ y = .int i ∧ ns[i]? = some z ∧ k (.int z)
theorem l_ixScr {K : PySem.W.Frag} : Lift2 K (L2.rIxL K) dIxScr := by
  rintro S v u x y k Q e q1 q2 ⟨ns, i, z, rfl, rfl, hz, hk⟩ o
  obtain ⟨p, rfl, hs⟩ := rep_scr q1
  cases q2
  exact ⟨p, _, _, .int z, rfl, rfl, e.sqL hs, atI_nat (by rw [List.getElem?_map, hz]; rfl), o.mk e (.int z) hk⟩
def dNeScr : DR2 := fun x y k => ∃ ns : List Int, x = scrD ns ∧ y = .list [] ∧ k (.bool (!ns.isEmpty))
theorem l_neScr {K : PySem.W.Frag} : Lift2 K (rNeD K) dNeScr := by
  rintro S v u x y k Q e q1 q2 ⟨ns, rfl, rfl, hk⟩ o
  obtain ⟨p, rfl, hs⟩ := rep_scr q1
  have o1 : okD 60 (.list (ns.map .int)) := ok_lst (n := 59) fun d hd => by
    obtain ⟨i, _, rfl⟩ := List.mem_map.mp hd
    exact ok_int
  have o2 : okD 60 (.list []) := ok_lst (n := 59) fun d hd => by cases hd
  refine ⟨_, _, .lst (e.sqL hs) ((Reps.of_ints (K := K) (H := S.h) ns).dp (by simpa [PyData.hasDict] using o1.2.2)), (q2.mono e).dp o2.2.2, o1.shaped, o2.shaped, ?_⟩
  have hv : PyData.eqv (.list (ns.map .int)) (.list []) = ns.isEmpty := by
    cases ns <;> simp [PyData.eqv, PyData.eqvAll]
  rw [hv]
  exact o.mk e (.bl _) hk

/-! ### dicts written where they are read -/
def tabD (kvs : List (Str × Str)) (x : Str) : Option Str := (kvs.find? fun p => decide (p.1 = x)).map (·.2)
@[simp] def dTab (kvs : List (Str × Str)) (β : DTE) : DTE := fun ρ k => β ρ fun y ρ1 => ∃ x w, y = .str x ∧ tabD kvs x = some w ∧ k (.str w) ρ1
theorem de_tab3 {a1 b1 a2 b2 a3 b3 : Str} {j1 k1 j2 k2 j3 k3} {p1 q1 p2 q2 p3 q3 pd : Pos} (hu : X.A.units + 1 < cLine) (hb : PE X b (tD X.K β)) (hn : a1 ≠ a2 ∧ a1 ≠ a3 ∧ a2 ≠ a3) (hs : NoSl b := by intro _ _; rfl) :
    PE X (.Subscript (.Dict [some (.Constant (.str a1) j1 p1), some (.Constant (.str a2) j2 p2), some (.Constant (.str a3) j3 p3)] [.Constant (.str b1) k1 q1, .Constant (.str b2) k2 q2, .Constant (.str b3) k3 q3] pd) b pos)
      (tD X.K (dTab [(a1, b1), (a2, b2), (a3, b3)] β)) :=
  PE.weak (pe_dget hu (pe_disp (pps_cons pe_str pe_str (pps_cons pe_str pe_str (pps_cons pe_str pe_str pps_nil))) rfl rfl (by simp) (by show 3 ≤ 15; decide)) hb hs) fun σ H Q h => by
    obtain ⟨B, S, ρ, k, rfl, r, h, c⟩ := h
    intro d hd
    refine ⟨upd_same, [(.inr a1, .str b1), (.inr a2, .str b2), (.inr a3, .str b3)], rfl, by show 3 ≤ 15; decide, ?_⟩
    have hm : mergeK [] [((.inr a1 : Key), V.str b1), (.inr a2, .str b2), (.inr a3, .str b3)] = [(.inr a1, .str b1), (.inr a2, .str b2), (.inr a3, .str b3)] := by
      have n1 : ¬ (Sum.inr a1 : Key) = .inr a2 := fun e => hn.1 (Sum.inr.inj e)
      have n2 : ¬ (Sum.inr a1 : Key) = .inr a3 := fun e => hn.2.1 (Sum.inr.inj e)
      have n3 : ¬ (Sum.inr a2 : Key) = .inr a3 := fun e => hn.2.2 (Sum.inr.inj e)
      simp [mergeK, putK, n1, n2, n3]
    rw [upd_upd, hm]
    have g := Grow.own (S := S) (o := .dK [((.inr a1 : Key), V.str b1), (.inr a2, .str b2), (.inr a3, .str b3)]) r.gr.dh hd
    have hb1 : B.h d = none := r.gr.hh.back hd
    have r1 := (r.grow g).pin upd_same (r.gr.dh.back hd) hb1 (r.noAds hd)
    refine ⟨_, ⟨_, _⟩, ρ, _, rfl, r1, h, fun v y ρ1 S1 e1 r2 q1 h1 => ?_⟩
    obtain ⟨x, w, rfl, hw, hk⟩ := h1
    cases q1
    obtain ⟨r3, f1, f2, f3⟩ := RepS.unpin (r.gr) r2 (r.gr.dh.back hd) hb1
    refine ⟨d, .str w, rfl, ?_, c (.str w) (.str w) ρ1 S1 e1 r3 (.str w) hk⟩
    have hv : valV [((.inr a1 : Key), V.str b1), (.inr a2, .str b2), (.inr a3, .str b3)] (.inr x) = some (.str w) := by
      unfold tabD at hw
      unfold valV
      by_cases c1 : a1 = x
      · simp [c1] at hw ⊢
        exact hw
      · by_cases c2 : a2 = x
        · simp [c1, c2] at hw ⊢
          exact hw
        · by_cases c3 : a3 = x
          · simp [c1, c2, c3] at hw ⊢
            exact hw
          · simp [c1, c2, c3] at hw
    rw [← hv]
    exact DGet.k (k := .inr x) f1
/-- the module's table of texts -/
def dKTab (kvs : List (Str × Str)) (β : DTE) : DTE := dTab kvs β
theorem de_ktab {kvs : List (Str × Str)} {d : Addr} (hg : Gl X x) (hm : X.mg x = some (.ref d)) (hk : ∀ q ∈ kvs, KDct X.K X.w d q.1 (.str q.2)) (hb : PE X b (tD X.K β)) (hs : PlainIx b := by intro _ _; rfl) (hdb : (x == ("__debug__" : Str)) = false := by decide) :
    PE X (.Subscript (.Name x p) b pos) (tD X.K (dTab kvs β)) :=
  PE.weak (pe_ix ix_kdict (pe_glob (v := .ref d) hg hm rfl hdb) hb hs) fun σ H Q h => by
    obtain ⟨B, S, ρ, k, rfl, r, h, c⟩ := h
    refine ⟨B, S, ρ, _, rfl, r, h, fun v y ρ1 S1 e1 r1 q1 h1 => ?_⟩
    obtain ⟨x, w, rfl, hw, hkk⟩ := h1
    cases q1
    unfold tabD at hw
    obtain ⟨q, hq, rfl⟩ := Option.map_eq_some_iff.mp hw
    have h2 := hk q (List.mem_of_find?_eq_some hq)
    have h3 : q.1 = x := of_decide_eq_true (List.find?_some (p := fun p : Str × Str => decide (p.1 = x)) hq)
    rw [h3] at h2
    exact ⟨d, x, _, rfl, rfl, h2, c _ _ ρ1 S1 e1 r1 (.str _) hkk⟩
/-- {k: True} -/
theorem df_newK {j} {pb : Pos} (ha : PE X a (tD X.K α)) : PE X (.Dict [some a] [.Constant (.bool true) j pb] pos) (tDF X.K (dNewK α)) :=
  PE.weak (pe_disp (pps_cons ha pe_bl pps_nil) rfl rfl (by simp) (by show 1 ≤ 15; decide)) fun σ H Q h => by
    obtain ⟨B, S, ρ, k, rfl, r, h, c⟩ := h
    intro d hd
    have g := Grow.own (S := S) (o := .dK []) r.gr.dh hd
    have hb1 : B.h d = none := r.gr.hh.back hd
    have hd1 := r.gr.dh.back hd
    have r1 := (r.grow g).pin upd_same hd1 hb1 (r.noAds hd)
    refine ⟨_, ⟨_, _⟩, ρ, _, rfl, r1, h, fun v y ρ1 S1 e1 r2 q1 h1 => ?_⟩
    obtain ⟨key, rfl, hk⟩ := h1
    obtain rfl := rep_key q1
    refine ⟨r2.gr.hh d _ upd_same, [(key, .bl true)], rfl, by show 1 ≤ 15; decide, ?_⟩
    have r3 := r2.repin (o' := .dK [(key, .bl true)]) hd1
    obtain ⟨r4, f1, f2, f3⟩ := RepS.unpin (r.gr) r3 hd1 hb1
    refine c (.ref d) (.dK d [key]) ρ1 ⟨S1.d, _⟩ e1 r4 ⟨rfl, f1⟩ (fun a ha => ?_) (hk d)
    have ha : a = d := by simpa [Slot.ads] using ha
    subst ha
    exact ⟨f3, f2, hb1⟩

/-! ### tuple(range(n)) -/
def dTupRg (α : DTE) : DTE := fun ρ k => α ρ fun d ρ1 => ∃ n : Nat, d = .int n ∧ n ≤ 1000000 ∧ k (.tuple (intsD 0 n)) ρ1
theorem de_tupRg {pr : Pos} (hc : X.calm = true) (hg : Gl X "tuple") (hm : X.mg "tuple" = none) (hgr : Gl X "range") (hmr : X.mg "range" = none) (ha : PE X a (tD X.K α))
    (na : starEach [a] X.env = (false, eval a X.env) :: starEach [] X.env := by rfl) (nb : starEach [.Call (.Name "range" pr) [a] [] q] X.env = (false, eval (.Call (.Name "range" pr) [a] [] q) X.env) :: starEach [] X.env := by rfl) :
    PE X (.Call (.Name "tuple" p) [.Call (.Name "range" pr) [a] [] q] [] pos) (tD X.K (dTupRg α)) := PE.weak (pe_tupRg hc hg hm (prg_1 hgr hmr ha na) nb) fun σ H Q h => by
  obtain ⟨B, S, ρ, k, rfl, r, h, c⟩ := h
  refine ⟨B, S, ρ, _, rfl, r, h, fun v y ρ1 S1 e1 r1 q1 h1 => ?_⟩
  obtain ⟨n, rfl, hn, hk⟩ := h1
  cases q1
  refine ⟨n, rfl, RgOk.of_le (by omega) (by omega) (by omega) (by omega), fun t ht => ?_⟩
  have g := Grow.both (S := S1) (o := .tup (rgV 0 n)) r1.gr.dh ht
  refine c (.ref t) _ ρ1 ⟨_, _⟩ (e1.trans g.dd) (r1.grow g) (.tup (SqT.of upd_same) ?_) hk
  have e2 : rgV 0 (n : Int) = ((List.range n).map fun i => (0 + (i : Nat) : Int)).map V.int := by
    unfold rgV
    rw [Int.sub_zero, Int.toNat_natCast, List.map_map]
    rfl
  have e3 : intsD 0 n = ((List.range n).map fun i => (0 + (i : Nat) : Int)).map .int := by
    unfold intsD
    rw [List.map_map]
    rfl
  rw [e2, e3]
  exact Reps.of_ints _

/-! ### repr -/
def dRepr (α : DTE) : DTE := fun ρ k => α ρ fun d ρ1 => okD 60 d ∧ d.showable = true ∧ d.shown.length ≤ 1000000 ∧ (items d).isSome = true ∧ k (.str d.shown) ρ1
def rReprD (K : PySem.W.Frag) : List V → Hp → VK → Prop := fun xs H Q => ∃ a d, xs = [.ref a] ∧ Dp K H (.ref a) d ∧ okD 60 d ∧ d.showable = true ∧ d.shown.length ≤ 1000000 ∧ Q (.str d.shown) H
theorem cr_reprD (hu : X.A.units + 62 < cLine) (hgu : X.A.guards = some []) : CallR X (.builtin "repr") (rReprD X.K) := by
  intro pins s σ H xs us Q I r h
  obtain ⟨a, d, rfl, hd, ho, hs, hl, q⟩ := h
  cases r with
  | cons rx rt =>
    cases rt
    cases rx
    obtain ⟨as, hr⟩ := Dp.reads I d _ _ hd rfl
    refine repr_of_reads' hr hs (fun z => ?_) hgu (by have := ho.2.1; omega) (fun _ _ e => e) (fun h' u tk hk => ⟨.str d.shown, H, I.kept (t' := tk) hk, ⟨_, rfl⟩, q⟩) (by rw [sizeLine_eq]; omega)
    rw [ho.2.2] at z
    cases z
theorem de_repr (hu : X.A.units + 62 < cLine) (hgu : X.A.guards = some []) (hg : Gl X "repr") (hm : X.mg "repr" = none) (ha : PE X e (tD X.K α)) (hs : starEach [e] X.env = (false, eval e X.env) :: starEach [] X.env := by rfl) (hpl : (backTo pos (starEach [] X.env)).any (·.1) = false := by rfl) :
    PE X (.Call (.Name "repr" p) [e] [] pos) (tD X.K (dRepr α)) := PE.weak (pe_callB (cr_reprD hu hgu) hg hm (by decide +kernel) (pa_cons ha pa_nil hs) (by decide) (by decide) hs hpl) fun σ H Q h => by
  obtain ⟨B, S, ρ, k, rfl, r, h, c⟩ := h
  refine ⟨B, S, ρ, _, rfl, r, h, fun v d ρ1 S1 e1 r1 q1 h1 => ?_⟩
  obtain ⟨ho, hs, hl, hi, hk⟩ := h1
  have fin : ∀ a, v = .ref a → rReprD X.K [v] S1.h Q := fun a e => by
    subst e
    exact ⟨a, d, rfl, (q1.mono r1.gr.dh).dp ho.2.2, ho, hs, hl, c _ _ ρ1 S1 e1 r1 (.str _) hk⟩
  cases q1 with
  | lst _ _ => exact fin _ rfl
  | tup _ _ => exact fin _ rfl
  | scr _ => exact fin _ rfl
  | dT _ _ => exact fin _ rfl
  | fzt _ _ _ => exact fin _ rfl
  | non => cases hi
  | bl _ => cases hi
  | int _ => cases hi
  | str _ => cases hi
end
end DL
end
section
set_option Elab.async false
set_option maxRecDepth 100000
namespace DL
open PySem L2 L2.DC

/-! ### tuples whose object is known -/
def fzD (ds : List PyData) : PyData := .dict [(.none, .tuple ds)]
theorem rep_fz {K : PySem.W.Frag} {H : Hp} {v : V} {ds : List PyData} (q : Rep K H v (fzD ds)) : ∃ a o xs, v = .ref a ∧ H a = some (.frz o (.tup xs)) ∧ o.dict = none ∧ Reps K H xs ds := by
  unfold fzD at q
  cases q with
  | fzt h n r => exact ⟨_, _, _, rfl, h, n, r⟩
  | dT h r => cases r
def tTupZ (t : TA) : TE := fun σ H Q => t σ H fun xs H1 => xs.length ≤ sizeLine ∧ ∀ p o, o.dict = none → H1 p = none → Q (.ref p) (upd H1 p (.frz o (.tup xs)))
def rCatZ (K : PySem.W.Frag) : R2 := fun x y H Q => ∃ a b o xs ys, x = .ref a ∧ y = .ref b ∧ H a = some (.frz o (.tup xs)) ∧ SqT K H b ys ∧ xs ≠ [] ∧ xs.length + ys.length ≤ sizeLine ∧
  (ys = [] → Q (.ref a) H) ∧ (ys ≠ [] → ∀ p o', o'.dict = none → H p = none → Q (.ref p) (upd H p (.frz o' (.tup (xs ++ ys)))))
section
variable {X : Cx} {a b e : Expr} {es : List Expr} {α β : DTE} {ω : DTA} {pos p q : Pos} {x : Str}
theorem pe_tupZ {x1} {t : TA} (h : PA X es t) : PE X (.Tuple es x1 pos) (tTupZ t) := by
  refine ⟨fun pins s σ H Q I hq => wpAny_Tuple_spliced (thn (h.run pos pins s σ H _ I hq) fun us s1 ⟨xs, H1, I1, r, z, q⟩ => ⟨by rw [← r.length]; exact z, ?_⟩)⟩
  have hk := Heap.get?_push_size s1.heap (o := { cls := .type "tuple", data := .seq us.toArray }) rfl
  refine ⟨.ref s1.heap.objs.size, _, I1.laid (t' := s1.toks) (o := .frz _ (.tup xs)) (fun b u e => Heap.get?_push_of_some _ e) (Nat.le_refl _) ⟨hk, z, us, r, ⟨_, hk, rfl, _, rfl⟩⟩, rfl, q _ _ rfl (I1.hok.fresh (Nat.le_refl _))⟩
theorem op_catZ : OpR X (binaryOp .Add) (rCatZ X.K) := by
  intro pins s σ H x y v u Q I rx ry h
  obtain ⟨a, b, o, xs, ys, rfl, rfl, ha, hb, hx, hz, q1, q2⟩ := h
  cases rx
  cases ry
  obtain ⟨its, r1, p1, _⟩ := I.tuple (show SqT X.K H a xs from .inl (.inr ⟨o, ha⟩))
  obtain ⟨its2, r2, p2, _⟩ := I.tuple hb
  refine HT.cat_tup p1 p2 (fun z => hx (r1.nil_iff.mp z)) (fun z => ⟨.ref a, H, I, rfl, q1 (r2.nil_iff.mp z)⟩) (fun z => ?_) (by rw [← r1.length, ← r2.length]; exact hz)
  have hk := Heap.get?_push_size s.heap (o := { cls := .type "tuple", data := .seq (its ++ its2).toArray }) rfl
  exact ⟨.ref s.heap.objs.size, _, I.laid (t' := s.toks) (o := .frz _ (.tup (xs ++ ys))) (fun b ob q => Heap.get?_push_of_some _ q) (Nat.le_refl _) ⟨hk, by rw [List.length_append]; exact hz, _, r1.append r2, ⟨_, hk, rfl, _, rfl⟩⟩, rfl, q2 (fun w => z (r2.nil_iff.mpr w)) _ _ rfl (I.hok.fresh (Nat.le_refl _))⟩
/-- (.., ..), its object known -/
def dTupZ (ω : DTA) : DTE := fun ρ k => ω ρ fun xs ρ1 => xs.length ≤ sizeLine ∧ k (fzD xs) ρ1
theorem de_tupZ {x1} (h : PA X es (tDA X.K ω)) : PE X (.Tuple es x1 pos) (tD X.K (dTupZ ω)) := PE.weak (pe_tupZ h) fun σ H Q h => by
  obtain ⟨B, S, ρ, k, rfl, r0, h, c⟩ := h
  refine ⟨B, S, ρ, _, rfl, r0, h, fun vs xs ρ1 S1 e1 r1 q1 h1 => ⟨by rw [q1.length]; exact h1.1, fun p o ho hp => ?_⟩⟩
  have g := Grow.both (S := S1) (o := .frz o (.tup vs)) r1.gr.dh hp
  exact c (.ref p) (fzD xs) ρ1 ⟨_, _⟩ (e1.trans g.dd) (r1.grow g) (.fzt upd_same ho (q1.mono g.dd)) h1.2
def dCatZ : DR2 := fun x y k => ∃ xs ys, x = fzD xs ∧ y = .tuple ys ∧ xs ≠ [] ∧ xs.length + ys.length ≤ 1000000 ∧ k (fzD (xs ++ ys))
theorem l_catZ {K : PySem.W.Frag} : Lift2 K (rCatZ K) dCatZ := by
  rintro S v u x y k Q e q1 q2 ⟨xs, ys, rfl, rfl, hx, hz, hk⟩ o
  obtain ⟨a, ob, vs, rfl, ha, ho, hr⟩ := rep_fz q1
  cases q2 with
  | @tup b us _ hs' hr' =>
    have hvs : vs ≠ [] := fun h0 => by
      subst h0
      cases hr
      exact hx rfl
    refine ⟨a, b, ob, vs, us, rfl, rfl, e _ _ ha, e.sqT hs', hvs, by rw [hr.length, hr'.length, sizeLine_eq]; omega, fun h0 => ?_, fun _ p o' ho' hp => ?_⟩
    · subst h0
      cases hr'
      rw [List.append_nil] at hk
      exact o.mk e (.fzt ha ho hr) hk
    · have g := Grow.both (S := S) (o := .frz o' (.tup (vs ++ us))) e hp
      exact o _ _ _ g (.fzt upd_same ho' ((hr.mono g.dd).append (hr'.mono g.dd))) hk
/-- xs.index(e): it is there -/
def tBmZ (r : V → List V → Hp → VK → Prop) (to : TE) (t : TA) : TE := fun σ H Q => to σ H fun x H1 => (∃ a o xs, x = .ref a ∧ H1 a = some (.frz o (.tup xs)) ∧ o.dict = none) ∧ t σ H1 fun xs H2 => r x xs H2 Q
theorem pe_bmZ {o : Expr} {name : Str} {apos cpos : Pos} {id : String} {r : V → List V → Hp → VK → Prop} {to : TE} {t : TA} (pa : PlainAttrs "tuple") (slot : PySem.Slot "tuple" name id) (hty : typeOf (.builtin id) = pure (.type "method_descriptor")) (hm : MtR X id r) (ho : PE X o to) (ha : PA X [e] t)
    (hbase : attributeBase o name X.env (eval o X.env) = eval o X.env := by rfl)
    (hfew : ((backTo cpos (starEach [e] X.env)).all (fun x => !x.1) && (backToKw cpos (keywordEach [] X.env)).all (fun x => x.1.isSome)
      && decide (([e] : List Expr).length + ([] : List Keyword).length + (if ([] : List Keyword).isEmpty then 0 else 1) < 30)) = true := by rfl)
    (hline : (apos.endLine == cpos.line) = true := by rfl) (hs : starEach [e] X.env = (false, eval e X.env) :: starEach [] X.env := by rfl) (hplain : (backTo cpos (starEach [] X.env)).any (·.1) = false := by rfl) :
    PE X (.Call (.Attribute o name apos) [e] [] cpos) (tBmZ r to t) := by
  refine ⟨fun pins s σ H Q I h => wpAny_Call_method_late hbase hfew hline rfl (thn (ho.run pins s σ H _ I h) fun v s1 ⟨x, H1, I1, r1, ⟨a, ob, xs, ex, ea, hd⟩, q1⟩ => ?_)⟩
  subst ex
  cases r1
  obtain ⟨hg, hz, its, hv, hit⟩ := (I1.hok a _ ea : ObjOk X.prog X.w H1 s1.heap a (.frz ob (.tup xs)))
  refine ⟨"tuple", id, pa, slot, hty, hit.typeIs, fun b eb => ?_, ?_⟩
  · cases eb
    exact ⟨ob, hg, hd⟩
  have hA := ha.run cpos pins s1 σ H1 _ I1 q1
  rw [hs] at hA ⊢
  refine Calls.callWith_builtin (by show (false || (backTo cpos (starEach [] X.env)).any (·.1)) = false; rw [hplain] <;> rfl) (Calls.evalArgs_plain ?_)
  exact thn hA fun us s2 ⟨vs, H2, I2, r2, q2⟩ => hm pins s2 σ H2 (.ref a) vs (.ref a) us Q I2 rfl r2 q2
def dIndexZ (α β : DTE) : DTE := fun ρ k => α ρ fun d ρ1 => ∃ ds0, d = fzD ds0 ∧ β ρ1 fun y ρ2 => ∃ j : Nat, ∃ z : PyData, okD 60 (.tuple ds0) ∧ okD 60 y ∧ ds0[j]? = some z ∧ PyData.eqv z y = true ∧ (∀ (m : Nat) (z' : PyData), m < j → ds0[m]? = some z' → PyData.eqv z' y = false) ∧ k (.int (j : Nat)) ρ2
theorem de_indexZ {apos cpos : Pos} (hu : X.A.units + 65 < cLine) (ha : PE X a (tD X.K α)) (hb : PE X b (tD X.K β)) (hbase : attributeBase a "index" X.env (eval a X.env) = eval a X.env := by rfl)
    (hfew : ((backTo cpos (starEach [b] X.env)).all (fun x => !x.1) && (backToKw cpos (keywordEach [] X.env)).all (fun x => x.1.isSome)
      && decide (([b] : List Expr).length + ([] : List Keyword).length + (if ([] : List Keyword).isEmpty then 0 else 1) < 30)) = true := by rfl)
    (hline : (apos.endLine == cpos.line) = true := by rfl) (hs : starEach [b] X.env = (false, eval b X.env) :: starEach [] X.env := by rfl) (hplain : (backTo cpos (starEach [] X.env)).any (·.1) = false := by rfl) :
    PE X (.Call (.Attribute a "index" apos) [b] [] cpos) (tD X.K (dIndexZ α β)) :=
  PE.weak (pe_bmZ PySem.F.plainAttrs_tuple PySem.F.slot_tuple_index PySem.F.type_tuple_index (mt_indexT hu) ha (pa_cons hb pa_nil hs) hbase hfew hline hs hplain) fun σ H Q h => by
    obtain ⟨B, S, ρ, k, rfl, r, h, c⟩ := h
    refine ⟨B, S, ρ, _, rfl, r, h, fun v d ρ1 S1 e1 r1 q1 h1 => ?_⟩
    obtain ⟨ds0, rfl, h1⟩ := h1
    obtain ⟨p, o, xs, rfl, hp, ho, hr⟩ := rep_fz q1
    refine ⟨⟨p, o, xs, rfl, r1.gr.dh _ _ hp, ho⟩, B, S1, ρ1, _, rfl, r1, h1, fun w y ρ2 S2 e2 r2 q2 h2 => ?_⟩
    obtain ⟨j, z, o1, o2, hz, he, hn, hk⟩ := h2
    exact ⟨p, w, y, ds0, j, z, rfl, rfl, ((q1.unfz.mono e2).mono r2.gr.dh).dp o1.2.2, (q2.mono r2.gr.dh).dp o2.2.2, o1.shaped, o2.shaped, hz, he, hn, c _ _ ρ2 S2 (e1.trans e2) r2 (.int _) hk⟩
/-- what such a tuple is, for those who do not ask -/
theorem Cl.unfz {P : Program} {w : World} {K : PySem.W.Frag} {mg : Str → Option Value} {base : Heap} {nm : Str} {ps : List Str} {k : Nat} {φ ψ : DRn} (C : Cl P w K mg base nm ps k φ) (h : ∀ ds kk, ψ ds kk → φ ds fun d => ∃ xs, d = fzD xs ∧ kk (.tuple xs)) : Cl P w K mg base nm ps k ψ :=
  let ⟨f, fd, a, b, c, d⟩ := C
  ⟨f, fd, a, b, c, d.imp fun _ _ _ _ ⟨S, ds, kk, e1, e2, e3, e4, e5⟩ => ⟨S, ds, _, e1, e2, e3, h _ _ e4, fun v d T g q ⟨xs, ed, hk⟩ => e5 v _ T g (by
    subst ed
    exact q.unfz) hk⟩⟩
end

/-! ### list comprehensions with two clauses, no tests -/
section
variable {X : Cx}
def dL2 (ι : DTA) (v : Nat) (ι1 : DTA) (v1 : Nat) (ε : DTE) : DTF := fun ρ k => ι ρ fun xs ρ1 => ∃ (ys : PyData → List PyData) (g : PyData → PyData → PyData),
  xs.length ≤ 1000 ∧ (∀ x ∈ xs, (ys x).length ≤ 1000) ∧ (∀ i ∈ [v, v1], (ρ1.getD i .no).ads = [] ) ∧
  (∀ x ∈ xs, ι1 ((wipeD ρ1 [v, v1]).set v (.dat x)) fun ys' ρ3 => ys' = ys x ∧ ρ3 = (wipeD ρ1 [v, v1]).set v (.dat x)) ∧
  (∀ x ∈ xs, ∀ y ∈ ys x, ε ((wipeD ((wipeD ρ1 [v, v1]).set v (.dat x)) [v1]).set v1 (.dat y)) fun z ρ5 => z = g x y ∧ ρ5 = (wipeD ((wipeD ρ1 [v, v1]).set v (.dat x)) [v1]).set v1 (.dat y)) ∧
  ∀ l, k (.lst l (xs.flatMap fun x => (ys x).map (g x))) ρ1
theorem lift_dL2 {ι ι1 : DTA} {v v1 : Nat} {ε : DTE} : ∀ σ H Q, tDF X.K (dL2 ι v ι1 v1 ε) σ H Q → tLc2 (tDI X.K ι) (gName v) tYes (tDI X.K ι1) (gName v1) tYes (tD X.K ε) [v, v1] [v1] σ H Q := by
  intro σ H Q h
  obtain ⟨B, S, ρ, k, rfl, r, h, c⟩ := h
  refine ⟨B, S, ρ, _, rfl, r, h, fun xs ρ1 S1 J e1 r1 wk h1 D hD => ?_⟩
  obtain ⟨ys, g, hx, hy, hads, hi1, hin, done⟩ := h1
  have hd1 : S1.d D = none := r1.gr.dh.back hD
  let base : List V → Hs := fun ws => ⟨S1.d, upd B.h D (.lst ws)⟩
  have atD : ∀ {ws : List V} {T : Hs} {σ' : St} {ρ' : Env}, RepS X.K (base ws) T σ' ρ' → T.h D = some (.lst ws) := fun r => r.gr.hh D _ upd_same
  refine ⟨fun i m H => m = xs.length - i ∧ i ≤ xs.length ∧ ∃ T ws, H = T.h ∧ RepS X.K (base ws) T (L2.wipe σ [v, v1]) (wipeD ρ1 [v, v1]) ∧ Reps X.K T.d ws ((xs.take i).flatMap fun x => (ys x).map (g x)) ∧ ws.length ≤ i * 1000,
    ⟨xs.length, by simp, Nat.zero_le _, _, [], rfl, r1.pinNew hD [v, v1], .nil, by simp⟩, ?_⟩
  rintro i m H ⟨rfl, hi, T, ws, rfl, rT, hws, hlen⟩
  have wk2 := wk T rT.gr.dd rT.gr.dh i
  by_cases hlt : i < xs.length
  · obtain ⟨go, yd⟩ := wk2.2 xs[i] (by simp [hlt])
    have hxm : xs[i] ∈ xs := List.getElem_mem hlt
    have hyl := hy _ hxm
    have tk : (xs.take (i + 1)).flatMap (fun x => (ys x).map (g x)) = (xs.take i).flatMap (fun x => (ys x).map (g x)) ++ (ys xs[i]).map (g xs[i]) := by
      rw [List.take_add_one, List.getElem?_eq_getElem hlt, List.flatMap_append]
      simp
    refine .inr ⟨go, fun H => i + 1 ≤ xs.length ∧ ∃ T ws, H = T.h ∧ RepS X.K (base ws) T (L2.wipe σ [v, v1]) (wipeD ρ1 [v, v1]) ∧ Reps X.K T.d ws ((xs.take (i + 1)).flatMap fun x => (ys x).map (g x)) ∧ ws.length ≤ (i + 1) * 1000,
      fun H' n' => ⟨xs.length - (i + 1), by omega, rfl, n'.1, n'.2⟩, fun u H' y => ?_⟩
    obtain ⟨T', rfl, g1, q⟩ := yd u H' y
    refine ⟨wipe_set2, ?_⟩
    refine ite_yes ?_
    have rT2 : RepS X.K (base ws) T' ((L2.wipe σ [v, v1]).set v (some u)) ((wipeD ρ1 [v, v1]).set v (.dat xs[i])) := (rT.grow g1).setDat v q
    refine ⟨base ws, T', _, _, rfl, rT2, hi1 _ hxm, fun ys' ρ3 S3 J1 e3 r3 wk3 h3 => ?_⟩
    obtain ⟨rfl, rfl⟩ := h3
    have hws3 := (hws.mono g1.dd).mono e3
    refine ⟨fun j m H => m = (ys xs[i]).length - j ∧ j ≤ (ys xs[i]).length ∧ ∃ T ws, H = T.h ∧ Ex S3.d T.d ∧ RepS X.K (base ws) T (L2.wipe ((L2.wipe σ [v, v1]).set v (some u)) [v1]) (wipeD ((wipeD ρ1 [v, v1]).set v (.dat xs[i])) [v1]) ∧
        Reps X.K T.d ws ((xs.take i).flatMap (fun x => (ys x).map (g x)) ++ ((ys xs[i]).take j).map (g xs[i])) ∧ ws.length ≤ i * 1000 + j,
      ⟨(ys xs[i]).length, by simp, Nat.zero_le _, S3, ws, rfl, Ex.refl _, r3.wipe [v1], by simpa using hws3, by omega⟩, ?_⟩
    rintro j m H ⟨rfl, hj, T4, ws4, rfl, e4, r4, hws4, hlen4⟩
    have wk4 := wk3 T4 e4 r4.gr.dh j
    by_cases hjl : j < (ys xs[i]).length
    · obtain ⟨go1, yd1⟩ := wk4.2 (ys xs[i])[j] (by simp [hjl])
      have hym : (ys xs[i])[j] ∈ ys xs[i] := List.getElem_mem hjl
      refine .inr ⟨go1, fun H => ∃ T ws, H = T.h ∧ Ex S3.d T.d ∧ RepS X.K (base ws) T (L2.wipe ((L2.wipe σ [v, v1]).set v (some u)) [v1]) (wipeD ((wipeD ρ1 [v, v1]).set v (.dat xs[i])) [v1]) ∧
        Reps X.K T.d ws ((xs.take i).flatMap (fun x => (ys x).map (g x)) ++ ((ys xs[i]).take (j + 1)).map (g xs[i])) ∧ ws.length ≤ i * 1000 + (j + 1), fun H' n' => ⟨(ys xs[i]).length - (j + 1), by omega, rfl, hjl, n'⟩, fun u1 H5 y1 => ?_⟩
      obtain ⟨T5, rfl, g5, q5⟩ := yd1 u1 H5 y1
      refine ⟨wipe1, ?_⟩
      refine ite_yes ?_
      have r5 : RepS X.K (base ws4) T5 ((L2.wipe ((L2.wipe σ [v, v1]).set v (some u)) [v1]).set v1 (some u1)) ((wipeD ((wipeD ρ1 [v, v1]).set v (.dat xs[i])) [v1]).set v1 (.dat (ys xs[i])[j])) := (r4.grow g5).setDat v1 q5
      have back : ∀ {ws : List V} {T : Hs}, RepS X.K (base ws) T ((L2.wipe ((L2.wipe σ [v, v1]).set v (some u)) [v1]).set v1 (some u1)) ((wipeD ((wipeD ρ1 [v, v1]).set v (.dat xs[i])) [v1]).set v1 (.dat (ys xs[i])[j])) →
          RepS X.K (base ws) T (L2.wipe ((L2.wipe σ [v, v1]).set v (some u)) [v1]) (wipeD ((wipeD ρ1 [v, v1]).set v (.dat xs[i])) [v1]) := fun r => by
        have z := r.wipe [v1]
        rwa [wipe1, wipeD1] at z
      refine ⟨base ws4, T5, _, _, rfl, r5, hin _ hxm _ hym, fun w z ρ6 S6 e6 r6 q6 h6 => ?_⟩
      obtain ⟨rfl, rfl⟩ := h6
      have ee : Ex T4.d S6.d := g5.dd.trans e6
      refine ⟨ws4, atD r6, by rw [sizeLine_eq]; omega, ⟨S6.d, upd S6.h D (.lst (ws4 ++ [w]))⟩, ws4 ++ [w], rfl, e4.trans ee, ?_, ?_, by rw [List.length_append, List.length_singleton]; omega⟩
      · exact back (r6.repin (o' := .lst (ws4 ++ [w])) hd1)
      · rw [List.take_add_one, List.getElem?_eq_getElem hjl, List.map_append, ← List.append_assoc]
        exact (hws4.mono ee).append (.cons q6 .nil)
    · have e : j = (ys xs[i]).length := by omega
      subst e
      refine .inl ⟨wk4.1 (Nat.le_refl _), hlt, T4, ws4, rfl, ?_, ?_, by omega⟩
      · have z := r4.wipe [v]
        have e1 : L2.wipe (L2.wipe ((L2.wipe σ [v, v1]).set v (some u)) [v1]) [v] = L2.wipe σ [v, v1] := wipe_set2
        have e2 : wipeD (wipeD ((wipeD ρ1 [v, v1]).set v (.dat xs[i])) [v1]) [v] = wipeD ρ1 [v, v1] := by
          show ((((ρ1.set v1 .no).set v .no).set v (.dat xs[i])).set v1 .no).set v .no = (ρ1.set v1 .no).set v .no
          apply List.ext_getElem?
          intro i
          simp only [List.getElem?_set, List.length_set]
          by_cases h1 : v = i <;> by_cases h2 : v1 = i <;> simp [h1, h2]
        rwa [e1, e2] at z
      · rw [tk]
        rwa [List.take_of_length_le (Nat.le_refl _)] at hws4
  · have e : i = xs.length := by omega
    subst e
    refine .inl ⟨wk2.1 (Nat.le_refl _), ?_⟩
    obtain ⟨rf, f1, f2, f3, f4⟩ := r1.pinEnd hD rT (vs := [v, v1]) hads
    rw [merge_wipe] at rf f4
    rw [List.take_of_length_le (Nat.le_refl _)] at hws
    refine c (.ref D) (.lst D _) ρ1 T (e1.trans rT.gr.dd) rf ⟨rfl, ws, f1, hws⟩ (fun a ha => ?_) (done D)
    have ha : a = D := by simpa [Slot.ads] using ha
    subst ha
    exact ⟨f4, f2, f3⟩
end
end DL
end
section
set_option Elab.async false
set_option maxRecDepth 100000
namespace DL
open PySem L2 L2.DC

/-! ### objects of the text's class -/
/-- what is asked of the class -/
structure CTxt (K : PySem.W.Frag) (mg : Str → Option Value) (C : Addr) : Prop where
  cl : Cls K C
  nW : NoAttr K C "world"
  nH : NoAttr K C "here"
  nG : NoAttr K C "goal"
  nR : NoAttr K C "row"
  mgC : mg "Course" = some (.ref C)
section
variable {K : PySem.W.Frag} {B S : Hs} {σ : St} {ρ : Env} {i : Nat} {C p l : Addr} {w h g d : PyData} {row : List PyData}
theorem RepS.crs (r : RepS K B S σ ρ) (e : ρ[i]? = some (.crs C p l w h g row)) : σ[i]? = some (some (.ref p)) ∧ ∃ dx vw vh vg vs, S.h p = some (.ins C dx (crsFs vw vh vg l)) ∧ S.h l = some (.lst vs) ∧
    Rep K S.d vw w ∧ Rep K S.d vh h ∧ Rep K S.d vg g ∧ Reps K S.d vs row := by
  obtain ⟨hv, q⟩ := r.slot e
  exact ⟨join_some hv, q⟩
theorem crs_ne {S : Hs} {dx : Addr} {fs : List (Str × V)} {vs : List V} (h1 : S.h p = some (.ins C dx fs)) (h2 : S.h l = some (.lst vs)) : p ≠ l := fun z => by
  subst z
  rw [h1] at h2
  cases h2
theorem fw : ¬ (("world" : Str) = "here") ∧ ¬ (("goal" : Str) = "here") ∧ ¬ (("row" : Str) = "here") := by decide +kernel
theorem putHere (vw vh vg u : V) (l : Addr) : putF "here" u (crsFs vw vh vg l) = crsFs vw u vg l := by
  show (if ("world" : Str) = "here" then _ else (("world" : Str), vw) :: (if ("here" : Str) = "here" then (("here" : Str), u) :: _ else _)) = _
  rw [if_neg fw.1, if_pos rfl]
  rfl
theorem lookC (vw vh vg : V) (l : Addr) : (crsFs vw vh vg l).lookup ("world" : Str) = some vw ∧ (crsFs vw vh vg l).lookup ("here" : Str) = some vh ∧ (crsFs vw vh vg l).lookup ("goal" : Str) = some vg ∧ (crsFs vw vh vg l).lookup ("row" : Str) = some (.ref l) := ⟨rfl, rfl, rfl, rfl⟩
end
section
variable {X : Cx} {a b e : Expr} {es : List Expr} {α β : DTE} {ω : DTA} {pos p q : Pos} {x f : Str} {i : Nat} {C0 : Addr}
/-- x.f, the field data -/
def dFld (C0 : Addr) (i : Nat) (sel : PyData → PyData → PyData → PyData) : DTE := fun ρ k => ∃ p l w h g row, ρ[i]? = some (.crs C0 p l w h g row) ∧ k (sel w h g) ρ
theorem de_fld {selV : V → V → V → V} {sel : PyData → PyData → PyData → PyData} (cl : Cls X.K C0) (nf : NoAttr X.K C0 f) (hl : ∀ vw vh vg l, (crsFs vw vh vg l).lookup f = some (selV vw vh vg))
    (hs : ∀ (H : Hp) vw vh vg w h g, Rep X.K H vw w → Rep X.K H vh h → Rep X.K H vg g → Rep X.K H (selV vw vh vg) (sel w h g)) (hx : PE X (.Name x p) (tVar i))
    (hb : attributeBase (.Name x p) f X.env (eval (.Name x p) X.env) = eval (.Name x p) X.env := by rfl) : PE X (.Attribute (.Name x p) f pos) (tD X.K (dFld C0 i sel)) := PE.weak (pe_fld hx hb) fun σ H Q h => by
  obtain ⟨B, S, ρ, k, rfl, r, ⟨p, l, w, hh, g, row, e1, hk⟩, c⟩ := h
  obtain ⟨hv, dx, vw, vh, vg, vs, h1, h2, q1, q2, q3, q4⟩ := r.crs e1
  exact ⟨_, hv, p, C0, dx, _, _, rfl, h1, cl, nf, hl _ _ _ _, c _ _ ρ S (Ex.refl _) r (hs _ _ _ _ _ _ _ q1 q2 q3) hk⟩
abbrev dFW (C0 : Addr) (i : Nat) : DTE := dFld C0 i fun w _ _ => w
abbrev dFH (C0 : Addr) (i : Nat) : DTE := dFld C0 i fun _ h _ => h
abbrev dFG (C0 : Addr) (i : Nat) : DTE := dFld C0 i fun _ _ g => g
theorem de_fW (T : CTxt X.K X.mg C0) (hx : PE X (.Name x p) (tVar i)) (hb : attributeBase (.Name x p) "world" X.env (eval (.Name x p) X.env) = eval (.Name x p) X.env := by rfl) : PE X (.Attribute (.Name x p) "world" pos) (tD X.K (dFW C0 i)) :=
  de_fld (selV := fun w _ _ => w) T.cl T.nW (fun _ _ _ _ => (lookC _ _ _ _).1) (fun _ _ _ _ _ _ _ h _ _ => h) hx hb
theorem de_fH (T : CTxt X.K X.mg C0) (hx : PE X (.Name x p) (tVar i)) (hb : attributeBase (.Name x p) "here" X.env (eval (.Name x p) X.env) = eval (.Name x p) X.env := by rfl) : PE X (.Attribute (.Name x p) "here" pos) (tD X.K (dFH C0 i)) :=
  de_fld (selV := fun _ h _ => h) T.cl T.nH (fun _ _ _ _ => (lookC _ _ _ _).2.1) (fun _ _ _ _ _ _ _ _ h _ => h) hx hb
theorem de_fG (T : CTxt X.K X.mg C0) (hx : PE X (.Name x p) (tVar i)) (hb : attributeBase (.Name x p) "goal" X.env (eval (.Name x p) X.env) = eval (.Name x p) X.env := by rfl) : PE X (.Attribute (.Name x p) "goal" pos) (tD X.K (dFG C0 i)) :=
  de_fld (selV := fun _ _ g => g) T.cl T.nG (fun _ _ _ _ => (lookC _ _ _ _).2.2.1) (fun _ _ _ _ _ _ _ _ _ h => h) hx hb
/-- x.here = e -/
def dSetHere (C0 : Addr) (i : Nat) (α : DTE) : DTS := fun DD ρ => α ρ fun d ρ1 => ∃ p l w h g row, ρ1[i]? = some (.crs C0 p l w h g row) ∧ DD.nx (ρ1.set i (.crs C0 p l w d g row))
theorem ds_setHere {pos' : Pos} (T : CTxt X.K X.mg C0) (hx : PE X (.Name x p) (tVar i)) (he : PE X e (tD X.K α)) (hs : swapsWith e (some (.Attribute (.Name x p) "here" pos')) pos.line X.env = pure false := by rfl) :
    PS X (.Assign [.Attribute (.Name x p) "here" pos'] e pos) (tDS X.K (dSetHere C0 i α)) := PS.weak (ps_fld hx he hs) fun D σ H h => by
  obtain ⟨B, S, ρ, DD, rfl, r, h, TT⟩ := h
  refine ⟨B, S, ρ, _, rfl, r, h, fun v d ρ1 S1 ex1 r1 q1 h1 => ?_⟩
  obtain ⟨p, l, w, hh, g, row, e1, h1⟩ := h1
  obtain ⟨hv, dx, vw, vh, vg, vs, f1, f2, q2, q3, q4, q5⟩ := r1.crs e1
  refine ⟨_, hv, p, C0, dx, _, rfl, f1, T.cl, T.nH, by show 4 < 1000; decide, ?_⟩
  rw [putHere]
  refine TT.nx _ ⟨S1.d, upd S1.h p _⟩ _ (r1.mutate (l := p) e1 (by simp [Slot.ads]) (by rfl) ?_) h1
  have ne := crs_ne f1 f2
  refine ⟨by rw [hv]; rfl, dx, vw, v, vg, vs, upd_same, ?_, q2, q1, q4, q5⟩
  show upd S1.h p _ l = _
  rw [upd_ne ne.symm]
  exact f2
/-- x.row.append(e) -/
def dAppR (C0 : Addr) (i : Nat) (α : DTE) : DTE := fun ρ k => (∃ p l w h g row, ρ[i]? = some (.crs C0 p l w h g row)) ∧ α ρ fun d ρ1 => ρ1 = ρ ∧ ∃ p l w h g row, ρ1[i]? = some (.crs C0 p l w h g row) ∧ row.length < 1000000 ∧ k .none (ρ1.set i (.crs C0 p l w h g (row ++ [d])))
theorem de_appR {apos rpos cpos : Pos} (T : CTxt X.K X.mg C0) (hx : PE X (.Name x p) (tVar i)) (he : PE X e (tD X.K α)) (hb : attributeBase (.Name x p) "row" X.env (eval (.Name x p) X.env) = eval (.Name x p) X.env := by rfl)
    (hbase : attributeBase (.Attribute (.Name x p) "row" rpos) "append" X.env (eval (.Attribute (.Name x p) "row" rpos) X.env) = eval (.Attribute (.Name x p) "row" rpos) X.env := by rfl)
    (hfew : ((backTo cpos (starEach [e] X.env)).all (fun x => !x.1) && (backToKw cpos (keywordEach [] X.env)).all (fun x => x.1.isSome) && decide (([e] : List Expr).length + ([] : List Keyword).length + (if ([] : List Keyword).isEmpty then 0 else 1) < 30)) = true := by rfl)
    (hline : (apos.endLine == cpos.line) = true := by rfl) (hs : starEach [e] X.env = (false, eval e X.env) :: starEach [] X.env := by rfl) (hplain : (backTo cpos (starEach [] X.env)).any (·.1) = false := by rfl) :
    PE X (.Call (.Attribute (.Attribute (.Name x p) "row" rpos) "append" apos) [e] [] cpos) (tD X.K (dAppR C0 i α)) :=
  PE.weak (pe_bm PySem.F.plainAttrs_list PySem.F.slot_list_append PySem.F.type_list_append mt_append (pe_fld hx hb) (pa_cons he pa_nil hs) hbase hfew hline hs hplain) fun σ H Q h => by
    obtain ⟨B, S, ρ, k, rfl, r, ⟨⟨p, l, w, hh, g, row, e1⟩, h⟩, c⟩ := h
    obtain ⟨hv, dx, vw, vh, vg, vs, f1, f2, q2, q3, q4, q5⟩ := r.crs e1
    refine ⟨_, hv, p, C0, dx, _, _, rfl, f1, T.cl, T.nR, (lookC _ _ _ _).2.2.2, .inl ⟨rfl, vs, SqL.of f2⟩, B, S, ρ, _, rfl, r, h, fun v d ρ1 S1 ex1 r1 q1 h1 => ?_⟩
    obtain ⟨rfl, p', l', w', h', g', row', e2, hz, h1⟩ := h1
    rw [e1] at e2
    cases e2
    obtain ⟨hv', dx', vw', vh', vg', vs', f1', f2', q2', q3', q4', q5'⟩ := r1.crs e1
    refine ⟨l, vs', v, rfl, rfl, f2', by rw [q5'.length, sizeLine_eq]; omega, ?_⟩
    refine c .non .none _ ⟨S1.d, upd S1.h l (.lst (vs' ++ [v]))⟩ ex1 (r1.mutate (l := l) e1 (by simp [Slot.ads]) (by rfl) ?_) .non h1
    have ne := crs_ne f1' f2'
    refine ⟨by rw [hv']; rfl, dx', vw', vh', vg', vs' ++ [v], ?_, upd_same, q2', q3', q4', q5'.append (.cons q1 .nil)⟩
    show upd S1.h l _ p = _
    rw [upd_ne ne]
    exact f1'
/-- tuple(x.row) -/
def dTupR (C0 : Addr) (i : Nat) : DTE := fun ρ k => ∃ p l w h g row, ρ[i]? = some (.crs C0 p l w h g row) ∧ k (.tuple row) ρ
theorem de_tupR {rpos q : Pos} (T : CTxt X.K X.mg C0) (hx : PE X (.Name x p) (tVar i)) (hg : Gl X "tuple") (hm : X.mg "tuple" = none) (hb : attributeBase (.Name x p) "row" X.env (eval (.Name x p) X.env) = eval (.Name x p) X.env := by rfl)
    (hs : starEach [.Attribute (.Name x p) "row" rpos] X.env = (false, eval (.Attribute (.Name x p) "row" rpos) X.env) :: starEach [] X.env := by rfl) (hpl : (backTo pos (starEach [] X.env)).any (·.1) = false := by rfl) :
    PE X (.Call (.Name "tuple" q) [.Attribute (.Name x p) "row" rpos] [] pos) (tD X.K (dTupR C0 i)) :=
  PE.weak (pe_callTy call_tuple_of hg hm (by decide +kernel) (pa_cons (pe_fld hx hb) pa_nil hs) (by decide) (by decide) hs hpl) fun σ H Q h => by
    obtain ⟨B, S, ρ, k, rfl, r, ⟨p, l, w, hh, g, row, e1, h⟩, c⟩ := h
    obtain ⟨hv, dx, vw, vh, vg, vs, f1, f2, q2, q3, q4, q5⟩ := r.crs e1
    refine ⟨_, hv, p, C0, dx, _, _, rfl, f1, T.cl, T.nR, (lookC _ _ _ _).2.2.2, l, vs, rfl, .inl ⟨SqL.of f2, fun t ht => ?_⟩⟩
    have g := Grow.both (S := S) (o := .tup vs) r.gr.dh ht
    exact c _ _ ρ ⟨_, _⟩ g.dd (r.grow g) (.tup (SqT.of upd_same) (q5.mono g.dd)) h

/-! methods that change their object -/
def ClM (P : Program) (w : World) (K : PySem.W.Frag) (mg : Str → Option Value) (base : Heap) (C : Addr) (m : Str) (ps : List Str) (k : Nat) (φ : DR1) : Prop :=
  ∃ f fd, Meth K C m f ∧ Binds K fd ps [] ∧ FnOk P w K mg base CX0 k f fd ps (spD1 K φ)
theorem crs_no {vw vh vg : V} {l : Addr} {m : Str} (h : m ≠ "world" ∧ m ≠ "here" ∧ m ≠ "goal" ∧ m ≠ "row") : (crsFs vw vh vg l).lookup m = none := by
  unfold crsFs
  simp [List.lookup, beq_eq_false_iff_ne.mpr h.1, beq_eq_false_iff_ne.mpr h.2.1, beq_eq_false_iff_ne.mpr h.2.2.1, beq_eq_false_iff_ne.mpr h.2.2.2]
/-- x.m(..) -/
def dMeth (C0 : Addr) (i : Nat) (φ : DR1) (ω : DTA) : DTE := fun ρ k => (∃ p l w h g row, ρ[i]? = some (.crs C0 p l w h g row)) ∧ ω ρ fun ds ρ1 => ρ1 = ρ ∧ ∃ p l w h g row, ρ1[i]? = some (.crs C0 p l w h g row) ∧ φ (.crs C0 p l w h g row) ds fun d s' => k d (ρ1.set i s')
theorem de_meth {ps : List Str} {k j : Nat} {φ : DR1} {m : Str} {apos : Pos} (M : ClM X.prog X.w X.K X.mg X.base C0 m ps j φ) (T : CTxt X.K X.mg C0) (hr : Room k X.A) (hj : j ≤ k) (hx : PE X (.Name x p) (tVar i)) (ha : PA X (e :: es) (tDA X.K ω))
    (hn : (m : Str) ≠ "world" ∧ m ≠ "here" ∧ m ≠ "goal" ∧ m ≠ "row" := by decide +kernel) {pl : Sem Bool}
    (hst : starEach (e :: es) X.env = (false, eval e X.env) :: starEach es X.env := by rfl) (hpl : (backTo pos (starEach es X.env)).any (·.1) = false := by rfl)
    (ht : eval (.Call (.Attribute (.Name x p) m apos) (e :: es) [] pos) X.env = (do
      let ov ← eval (.Name x p) X.env
      standAt apos.atName
      let (f, first) ← holding [ov] (getMethod ov m pl)
      callWith pos f first (backTo pos (starEach (e :: es) X.env)) (backToKw pos (keywordEach [] X.env))) := by rfl) :
    PE X (.Call (.Attribute (.Name x p) m apos) (e :: es) [] pos) (tD X.K (dMeth C0 i φ ω)) := by
  obtain ⟨f, fd, h1, h2, h3⟩ := M
  refine PE.weak (pe_meth (E := E0) (dvs := []) hx T.cl h1 h3 (hr.mono hj) h2 .nil pass0 ha hst hpl ht) fun σ H Q h => ?_
  obtain ⟨B, S, ρ, k, rfl, r0, ⟨⟨p0, l0, w0, hh0, g0, row0, e0⟩, h⟩, c⟩ := h
  obtain ⟨hv, dx, vw, vh, vg, vs, f1, f2, q2, q3, q4, q5⟩ := r0.crs e0
  refine ⟨_, hv, p0, dx, _, rfl, f1, crs_no hn, B, S, ρ, _, rfl, r0, h, fun us xs ρ1 S1 e1 r1 q1 h1 => ?_⟩
  obtain ⟨rfl, p, l, w, hh, g, row, e2, h1⟩ := h1
  rw [e0] at e2
  cases e2
  have hs := r1.slot e0
  rw [hv] at hs
  show spD1 X.K φ (V.ref p0 :: (us ++ [])) S1.h Q E0
  rw [List.append_nil]
  refine ⟨S1, _, us, _, xs, _, rfl, rfl, r1.gr.dh, hs, nofun, fun a ha => (r1.own i a (by rw [getD_of e0]; exact ha)).1, q1, h1, fun u d T s' g hs' ha' hd' qd hk => ?_⟩
  exact c u d _ T (e1.trans g.dd) (r1.after1 e0 g (by rw [hv]; exact hs') ha' hd') qd hk
/-- what is known of a method of the text -/
def DfM (K : PySem.W.Frag) (C : Addr) (m qual : Str) (ps : List Str) (st : Stmt) : Prop := ∃ f fd, Fun K m qual st f fd ∧ Binds K fd ps [] ∧ Meth K C m f
theorem DfM.cl {P : Program} {w : World} {K : PySem.W.Frag} {mg : Str → Option Value} {base : Heap} {C : Addr} {m qual : Str} {ps N : List Str} {st : Stmt} {k : Nat} {φ : DR1} (D : DfM K C m qual ps st) (S : FnScope N ps (defScope st)) (len : ∀ s ds k, φ s ds k → ds.length + 1 = ps.length)
    (body : ∀ (f : Addr) (cdv : Value) (A : Around) (outer : List PySem.Env) (s : Shared) (H : Hp) (E : XK), Room k (bodyX P w K mg base N qual st f cdv A outer s H E).A →
      ∃ δ, PSs (bodyX P w K mg base N qual st f cdv A outer s H E) (defBody st) (tDS K δ) ∧ ∀ s ds kk, φ s ds kk → δ (ends1 s kk) (env0 N.length (s :: ds.map .dat))) :
    ClM P w K mg base C m ps (k + 1) φ := by
  obtain ⟨f, fd, F, b, g⟩ := D
  exact ⟨f, fd, g, b, ok_of1 F S len (body f)⟩
theorem ClM.mono {P : Program} {w : World} {K : PySem.W.Frag} {mg : Str → Option Value} {base : Heap} {C : Addr} {m : Str} {ps : List Str} {j k : Nat} {φ : DR1} (M : ClM P w K mg base C m ps j φ) (h : j ≤ k) : ClM P w K mg base C m ps k φ :=
  let ⟨f, fd, a, b, c⟩ := M
  ⟨f, fd, a, b, c.mono h⟩

/-! the making of one -/
def spInit (K : PySem.W.Frag) (C : Addr) : Sp := fun vs H Q _ => ∃ p dx vw vh vg, vs = [.ref p, vw, vh, vg] ∧ H p = some (.ins C dx []) ∧ ∀ l, H l = none → Q .non (upd (upd H l (.lst [])) p (.ins C dx (crsFs vw vh vg l)))
def ClI (P : Program) (w : World) (K : PySem.W.Frag) (mg : Str → Option Value) (base : Heap) (C : Addr) (k : Nat) : Prop :=
  ∃ f fd, Mk K C f ∧ Binds K fd ["self", "world", "here", "goal"] [] ∧ FnOk P w K mg base CX0 k f fd ["self", "world", "here", "goal"] (spInit K C)
def dMake (C : Addr) (ω : DTA) : DTF := fun ρ k => ω ρ fun ds ρ1 => ∃ w h g, ds = [w, h, g] ∧ ∀ p l, k (.crs C p l w h g []) ρ1
theorem df_make {k : Nat} {xc : Str} (M : ClI X.prog X.w X.K X.mg X.base C0 k) (hr : Room (k + 1) X.A) (hg : Gl X xc) (hm : X.mg xc = some (.ref C0)) (ha : PA X (e :: es) (tDA X.K ω)) (hdb : (xc == ("__debug__" : Str)) = false := by decide)
    (he : starEach (e :: es) X.env = (false, eval e X.env) :: starEach es X.env := by rfl) (hpl : (backTo pos (starEach es X.env)).any (·.1) = false := by rfl) : PE X (.Call (.Name xc q) (e :: es) [] pos) (tDF X.K (dMake C0 ω)) := by
  obtain ⟨f, fd, h1, h2, h3⟩ := M
  refine PE.weak (pe_make (E := E0) (dvs := []) h1 h3 hr hg hm h2 .nil pass0 ha hdb he hpl) fun σ H Q h => ?_
  obtain ⟨B, S, ρ, k, rfl, r, h, c⟩ := h
  refine ⟨B, S, ρ, _, rfl, r, h, fun us ds ρ1 S1 e1 r1 q1 h1 => ?_⟩
  obtain ⟨w, hh, g_, rfl, hk⟩ := h1
  cases q1 with
  | @cons vw _ _ _ qw q1 =>
    cases q1 with
    | @cons vh _ _ _ qh q1 =>
      cases q1 with
      | @cons vg _ _ _ qg q1 =>
        cases q1
        intro x dx hx hdx ne
        refine ⟨x, dx, vw, vh, vg, rfl, upd_same, fun l hl => ⟨rfl, ?_⟩⟩
        have nlx : l ≠ x := fun z => by
          rw [z, upd_same] at hl
          cases hl
        have nld : l ≠ dx := fun z => by
          rw [z, upd_ne ne, upd_same] at hl
          cases hl
        have hl1 : S1.h l = none := by rwa [upd_ne nlx, upd_ne nld] at hl
        let S2 : Hs := ⟨S1.d, upd S1.h dx (.own x)⟩
        let S3 : Hs := ⟨S1.d, upd S2.h l (.lst [])⟩
        let S4 : Hs := ⟨S1.d, upd S3.h x (.ins C0 dx (crsFs vw vh vg l))⟩
        have g2 : Grow S1 S2 := Grow.own r1.gr.dh hdx
        have g3 : Grow S2 S3 := Grow.own g2.dh (by show upd S1.h dx _ l = none; rw [upd_ne nld]; exact hl1)
        have g4 : Grow S3 S4 := Grow.own g3.dh (by show upd (upd S1.h dx _) l _ x = none; rw [upd_ne nlx.symm, upd_ne ne.symm]; exact hx)
        have eH : upd (upd (upd (upd S1.h dx (.own x)) x (.ins C0 dx [])) l (.lst [])) x (.ins C0 dx (crsFs vw vh vg l)) = S4.h := by
          show _ = upd (upd (upd S1.h dx (.own x)) l (.lst [])) x (.ins C0 dx (crsFs vw vh vg l))
          funext b
          by_cases hb : b = x
          · subst hb
            rw [upd_same, upd_same]
          · rw [upd_ne hb, upd_ne hb]
            by_cases hb2 : b = l
            · subst hb2
              rw [upd_same, upd_same]
            · rw [upd_ne hb2, upd_ne hb2, upd_ne hb]
        rw [eH]
        have g := (g2.trans g3).trans g4
        refine c (.ref x) (.crs C0 x l w hh g_ []) ρ1 S4 e1 (r1.grow g) ⟨rfl, dx, vw, vh, vg, [], upd_same, ?_, qw, qh, qg, .nil⟩ (fun a ha => ?_) (hk x l)
        · show upd S3.h x _ l = _
          rw [upd_ne nlx]
          exact upd_same
        · have ha : a = x ∨ a = l := by simpa [Slot.ads] using ha
          have hn : S1.h a = none := by
            rcases ha with ha | ha
            · rw [ha]; exact hx
            · rw [ha]; exact hl1
          exact ⟨r1.noAds hn, r1.gr.dh.back hn, r1.gr.hh.back hn⟩
end
end DL
end
section
set_option Elab.async false
set_option maxRecDepth 100000
namespace L2.GD
open PySem PySem.Spec PyProof.Rows
/-! Defs that call repr: their promise is asked where no repr is under way. -/
structure FnG (P : Program) (w : World) (K : PySem.W.Frag) (mg : Str → Option Value) (base : Heap) (k : Nat) (f : Addr) (fd : FuncData) (ps : List Str) (sp : Sp) : Prop where
  len : ∀ vs H Q E, sp vs H Q E → vs.length = ps.length
  run : ∀ (A : Around) (outer : List Env) (s : Shared) (H : Hp) (args : Args) (us : List Value) (vs : List V) (Q : VK) (E : XK), Room k A → A.guards = some [] → Env0 P w K mg base A outer s H → BindsTo s fd args (ps.zip us) → Vals vs us → sp vs H Q E →
    codeAny (model P w) A (.call (.ref f) args) (CR CX0 outer P w H s Q E) s
theorem guards_deeper {A : Around} {env : Env} (h : A.guards = some []) : (A.deeper env).guards = some [] := h
theorem fnG_of {P : Program} {w : World} {K : PySem.W.Frag} {mg : Str → Option Value} {base : Heap} {k : Nat} {f : Addr} {nm qual : Str} {st : Stmt} {fd : FuncData} {N ps : List Str} {sp : Sp} (F : Fun K nm qual st f fd) (S : FnScope N ps (defScope st))
    (len : ∀ vs H Q E, sp vs H Q E → vs.length = ps.length)
    (hbody : ∀ (cdv : Value) (A : Around) (outer : List Env) (s : Shared) (H : Hp) (vs : List V) (Q : VK) (E : XK), Room k (A.deeper (envOfC qual (defScope st) s.heap.objs.size f cdv)) → A.guards = some [] → sp vs H Q E →
      ∃ t, PSs (cxOf CX0 P w K mg base N qual (defScope st) f cdv A outer s H E).nox (defBody st) t ∧ t { nx := fun _ H' => Q .non H', rt := Q } (start N vs) H) :
    FnG P w K mg base (k + 1) f fd ps sp := by
  obtain ⟨oc, od, kV, doc, pm, an, cdv, ct, osl, rfl, lk, hcd⟩ := F.ex
  refine ⟨len, fun A outer s H args us vs Q E hr hgu e0 hb rel hsp => ?_⟩
  have hlen := len _ _ _ _ hsp
  have inK : K.In s.heap := e0.mod.kin.keeps fun b o eb => (e0.bs b o eb).1
  have noL : s.heap.NoLimit := e0.mod.nolimit.keeps fun b o eb => (e0.bs b o eb).1
  have kinds : ∀ y ∈ ps.zip us, (defScope st).names.lookup y.1 = some .local ∨ ((defScope st).names.lookup y.1 = some .cell ∧ ((cellsFrom (s.heap.objs.size + 1) (defScope st).names []).lookup y.1).isSome = true) := fun ⟨n, _⟩ hy =>
    (S.par n (List.of_mem_zip hy).1).imp id fun q => ⟨q, PySem.W.cellsFrom_some _ _ _ (.inl q)⟩
  refine codeAny_call_function hr.depth (inK _ _ lk) rfl S.co S.gen rfl (PySem.W.codeRec_of inK hcd) (hb _ _ _ _ (wpAny_newFunctionEnv_cells S.kind kinds fun env he s1 x => ?_))
  subst he
  refine ⟨noL.keeps x.toInCall.keep, codeAny_func ?_⟩
  obtain ⟨t, ht0, hq⟩ := hbody cdv A outer s H vs Q E (hr.deeper _) hgu hsp
  have I0 : Inv (cxOf CX0 P w K mg base N qual (defScope st) f cdv A outer s H E) [] (start N vs) H s1 := inv_start S hr.hd e0 hlen rel x
  have ht := ht0.nox
  refine wpAny_mono (ht.run [] s1 (start N vs) H _ I0 hq) (fun fl s' hs => ?_) fun _ _ hs => hs
  cases fl with
  | ret u =>
    obtain ⟨v, σ', H', J, rv, q⟩ := hs
    exact ⟨v, H', J.os, J.bare, J.base, J.hok, rv, q⟩
  | next =>
    obtain ⟨σ', H', J, q⟩ := hs
    exact ⟨V.non, H', J.os, J.bare, J.base, J.hok, rfl, q⟩
  | brk =>
    obtain ⟨_, _, _, q⟩ := hs
    exact False.elim q
  | cont =>
    obtain ⟨_, _, _, q⟩ := hs
    exact False.elim q
section
variable {X : Cx} {k : Nat} {f : Addr} {fd : FuncData} {ps : List Str} {sp : Sp} {x : Str} {p pos : Pos} {e : Expr} {es : List Expr} {t : TA}
theorem pe_callG (F : FnG X.prog X.w X.K X.mg X.base k f fd ps sp) (hr : Room k X.A) (hgu : X.A.guards = some []) (hg : Gl X x) (hm : X.mg x = some (.ref f)) (hk : PySem.W.keepIn X.K (.ref f) = true) (hb : Binds X.K fd ps [])
    (ha : PA X (e :: es) t) (hdb : (x == ("__debug__" : Str)) = false := by decide) (he : starEach (e :: es) X.env = (false, eval e X.env) :: starEach es X.env := by rfl) (hpl : (backTo pos (starEach es X.env)).any (·.1) = false := by rfl) :
    PE X (.Call (.Name x p) (e :: es) [] pos) (tCall sp [] E0 t) := by
  refine ⟨fun pins s σ H Q I h => wpAny_Call_Name_kw (ld_glob I hg hm ?_ hdb)⟩
  refine PySem.W.callWith_K (h₀ := X.base) I.ok.mod.kin hk (thn (ha.run pos pins s σ H _ I h) fun us s1 ⟨vs, H1, I1, r, q⟩ => ⟨I1.kIn, ?_⟩) he hpl
  have q : sp (vs ++ []) H1 Q E0 := q
  rw [List.append_nil] at q
  have hl : us.length = ps.length := by rw [← r.length]; exact F.len _ _ _ _ q
  have hbb := hb s1 us I1.kIn (by rw [List.append_nil]; exact hl)
  rw [List.append_nil] at hbb
  refine wpAny_call (codeAny_mono (F.run X.A X.stack s1 H1 ⟨us, []⟩ us vs Q E0 hr hgu I1.env0 hbb r q) fun r s' hq => ?_)
  cases r with
  | error e => exact pass0 pins σ H1 s1 e s' I1 hq
  | ok fl =>
    cases fl with
    | ret u => exact I1.after hq
    | next => exact False.elim hq
    | brk => exact False.elim hq
    | cont => exact False.elim hq
end
end L2.GD
namespace DL
open PySem L2 L2.DC L2.GD
section
variable {P : Program} {w : World} {K : PySem.W.Frag} {mg : Str → Option Value} {base : Heap}
def ClG (P : Program) (w : World) (K : PySem.W.Frag) (mg : Str → Option Value) (base : Heap) (nm : Str) (ps : List Str) (k : Nat) (φ : DRn) : Prop :=
  ∃ f fd, mg nm = some (.ref f) ∧ PySem.W.keepIn K (.ref f) = true ∧ Binds K fd ps [] ∧ FnG P w K mg base k f fd ps (spD K φ)
theorem Df.clG {nm : Str} {ps N : List Str} {st : Stmt} {k : Nat} {φ : DRn} (D : Df K mg nm ps st) (S : FnScope N ps (defScope st)) (len : ∀ ds k, φ ds k → ds.length = ps.length)
    (body : ∀ (f : Addr) (cdv : Value) (A : Around) (outer : List PySem.Env) (s : Shared) (H : Hp) (E : XK), Room k (bodyX P w K mg base N nm st f cdv A outer s H E).A → (bodyX P w K mg base N nm st f cdv A outer s H E).A.guards = some [] →
      ∃ δ, PSs (bodyX P w K mg base N nm st f cdv A outer s H E) (defBody st) (tDS K δ) ∧ ∀ ds kk, φ ds kk → δ { nx := fun _ => kk .none, rt := fun d _ => kk d } (env0 N.length (ds.map .dat))) :
    ClG P w K mg base nm ps (k + 1) φ := by
  obtain ⟨f, fd, F, b, g⟩ := D
  have hpl : ps.length ≤ N.length := by
    have := congrArg List.length S.pre
    rw [List.length_take] at this
    omega
  refine ⟨f, fd, g, F.kp, b, fnG_of F S (fun vs H Q E h => ?_) fun cdv A outer s H vs Q E hr hgu h => ?_⟩
  · obtain ⟨S0, ds, kk, rfl, e, q, h, c⟩ := h
    rw [q.length]
    exact len _ _ h
  · obtain ⟨δ, hb, hd⟩ := body f cdv A outer s H E hr hgu
    obtain ⟨S0, ds, kk, rfl, e, q, h, c⟩ := h
    have hl : vs.length ≤ N.length := by
      rw [q.length, len _ _ h]
      exact hpl
    refine ⟨_, hb, S0, S0, _, _, rfl, reps_start hl e q, hd ds kk h, ?_⟩
    exact ⟨fun σ T ρ r hk => c .non .none T r.gr .non hk, fun v d σ T ρ r q hk => c v d T r.gr q hk, fun _ _ _ _ h => h.elim, fun _ _ _ _ h => h.elim, fun _ _ _ _ _ _ _ _ h => h.elim⟩
end
section
variable {X : Cx} {e : Expr} {es : List Expr} {ω : DTA} {pos p : Pos} {x : Str}
theorem de_callG {ps : List Str} {k j : Nat} {φ : DRn} (C : ClG X.prog X.w X.K X.mg X.base x ps j φ) (hr : Room k X.A) (hgu : X.A.guards = some []) (hj : j ≤ k) (hg : Gl X x) (ha : PA X (e :: es) (tDA X.K ω)) (hdb : (x == ("__debug__" : Str)) = false := by decide)
    (he : starEach (e :: es) X.env = (false, eval e X.env) :: starEach es X.env := by rfl) (hpl : (backTo pos (starEach es X.env)).any (·.1) = false := by rfl) : PE X (.Call (.Name x p) (e :: es) [] pos) (tD X.K (dCB φ ω)) := by
  obtain ⟨f, fd, h1, h2, h3, h4⟩ := C
  refine PE.weak (pe_callG h4 (hr.mono hj) hgu hg h1 h2 h3 ha hdb he hpl) fun σ H Q h => ?_
  obtain ⟨B, S, ρ, k, rfl, r0, h, c⟩ := h
  refine ⟨B, S, ρ, _, rfl, r0, h, fun vs xs ρ1 S1 e1 r1 q1 h1 => ?_⟩
  show spD X.K φ (vs ++ []) S1.h Q E0
  rw [List.append_nil]
  exact ⟨S1, xs, _, rfl, r1.gr.dh, q1, h1, fun z d T g qz hz => c z d ρ1 T (e1.trans g.dd) (r1.grow g) qz hz⟩
end
end DL
end
section
set_option Elab.async false
set_option maxRecDepth 100000
namespace DL
open PySem L2 L2.DC L2.GD
section
variable {X : Cx} {pos : Pos}
theorem de_lc2 {v v1 : Nat} {xn yn : Str} {px py : Pos} {elt iter iter1 : Expr} {scope : Scope} {ι ι1 : DTA} {ε : DTE} (hc : X.calm = true) (hN : X.N.Nodup) (hi : PI X (.Name xn px) iter (tDI X.K ι)) (ok : BlkOk X.N X.env.scope scope [(xn, v), (yn, v1)])
    (hg : ∀ (s : Shared) (H : Hp) (C : Addr) (cl : List (Str × Addr)) (fp : List Addr), PG (X.blk s H scope (compEnvC scope cl C X.env) fp) (.Name xn px) (gName v))
    (hi1 : ∀ (s : Shared) (H : Hp) (C : Addr) (cl : List (Str × Addr)) (fp : List Addr), PI (X.blk s H scope (compEnvC scope cl C X.env) fp) (.Name yn py) iter1 (tDI X.K ι1))
    (hg1 : ∀ (s : Shared) (H : Hp) (C : Addr) (cl : List (Str × Addr)) (fp : List Addr), PG (X.blk s H scope (compEnvC scope cl C X.env) fp) (.Name yn py) (gName v1))
    (he : ∀ (s : Shared) (H : Hp) (C : Addr) (cl : List (Str × Addr)) (fp : List Addr), PE (X.blk s H scope (compEnvC scope cl C X.env) fp) elt (tD X.K ε)) (hs : ∀ x, foldedSetIterable iter X.env x = pure x := by intro _; rfl) (hs1 : ∀ env x, foldedSetIterable iter1 env x = pure x := by intro _ _; rfl) :
    PE X (.ListComp elt [⟨.Name xn px, iter, [], 0⟩, ⟨.Name yn py, iter1, [], 0⟩] scope pos) (tD X.K (dPub (dL2 ι v ι1 v1 ε))) :=
  PE.weak (pe_lc2 (own := [(xn, v), (yn, v1)]) (vs1 := [v1]) hc hN hi ok (fun i hi => by simp at hi; simp [hi]) hg (fun _ _ _ _ _ => pts_nil) hi1 hg1 (fun _ _ _ _ _ => pts_nil) he hs hs1) (lift_pub lift_dL2)
/-- y = {(..): .. for x in .. for y in .. if ..} -/
theorem ds_setD2 {i v v1 : Nat} {y xn yn : Str} {py spos px py1 pk : Pos} {kk} {kes : List Expr} {vx test iter iter1 : Expr} {scope : Scope} {ι ι1 : DTA} {τ : DTT} {ω : DTA} {ε : DTE} (hu : X.A.units < cLine) (hc : X.calm = true) (hN : X.N.Nodup) (hy : X.N[i]? = some y) (hyl : X.env.scope.names.lookup y = some .local)
    (hsw : swapsWith (.DictComp (.Tuple kes kk pk) vx [⟨.Name xn px, iter, [], 0⟩, ⟨.Name yn py1, iter1, [test], 0⟩] scope pos) (some (.Name y py)) spos.line X.env = pure true) (hi : PI X (.Name xn px) iter (tDI X.K ι)) (ok : BlkOk X.N X.env.scope scope [(xn, v), (yn, v1)])
    (hg : ∀ (s : Shared) (H : Hp) (C : Addr) (cl : List (Str × Addr)) (fp : List Addr), PG (X.blk s H scope (compEnvC scope cl C X.env) fp) (.Name xn px) (gName v))
    (hi1 : ∀ (s : Shared) (H : Hp) (C : Addr) (cl : List (Str × Addr)) (fp : List Addr), PI (X.blk s H scope (compEnvC scope cl C X.env) fp) (.Name yn py1) iter1 (tDI X.K ι1))
    (hg1 : ∀ (s : Shared) (H : Hp) (C : Addr) (cl : List (Str × Addr)) (fp : List Addr), PG (X.blk s H scope (compEnvC scope cl C X.env) fp) (.Name yn py1) (gName v1))
    (ht : ∀ (s : Shared) (H : Hp) (C : Addr) (cl : List (Str × Addr)) (fp : List Addr), PT (X.blk s H scope (compEnvC scope cl C X.env) fp) test (tDT X.K τ))
    (hk : ∀ (s : Shared) (H : Hp) (C : Addr) (cl : List (Str × Addr)) (fp : List Addr), PA (X.blk s H scope (compEnvC scope cl C X.env) fp) kes (tDA X.K ω))
    (he : ∀ (s : Shared) (H : Hp) (C : Addr) (cl : List (Str × Addr)) (fp : List Addr), PE (X.blk s H scope (compEnvC scope cl C X.env) fp) vx (tD X.K ε)) (hs : ∀ x, foldedSetIterable iter X.env x = pure x := by intro _; rfl) (hs1 : ∀ env x, foldedSetIterable iter1 env x = pure x := by intro _ _; rfl) :
    PS X (.Assign [.Name y py] (.DictComp (.Tuple kes kk pk) vx [⟨.Name xn px, iter, [], 0⟩, ⟨.Name yn py1, iter1, [test], 0⟩] scope pos) spos) (tDS X.K (dSetF i (dDT ι v ι1 v1 τ ω ε))) :=
  PS.weak (ps_setDc2 (own := [(xn, v), (yn, v1)]) (vs1 := [v1]) hc hN hy hyl hsw hi ok (fun i hi => by simp at hi; simp [hi]) hg (fun _ _ _ _ _ => pts_nil) hi1 hg1 (fun _ _ _ _ _ => pts_one (ht _ _ _ _ _)) (fun _ _ _ _ _ => pe_tup (hk _ _ _ _ _)) hu he hs hs1) (lift_setF lift_dDT)
theorem de_lenScr {e : Expr} {es : List Expr} {ω : DTA} {p : Pos} (hg : Gl X "len") (hm : X.mg "len" = none) (ha : PA X (e :: es) (tDA X.K ω))
    (he : starEach (e :: es) X.env = (false, eval e X.env) :: starEach es X.env := by rfl) (hpl : (backTo pos (starEach es X.env)).any (·.1) = false := by rfl) : PE X (.Call (.Name "len" p) (e :: es) [] pos) (tD X.K (dCB dLenScr ω)) :=
  de_callB call_len_seq l_lenScr hg hm PySem.boot_len ha (by decide) (by decide) he hpl
theorem de_ixScr {a b : Expr} {α β : DTE} (ha : PE X a (tD X.K α)) (hb : PE X b (tD X.K β)) (hs : PlainIx b := by intro _ _; rfl) : PE X (.Subscript a b pos) (tD X.K (dOp dIxScr α β)) := PE.weak (pe_ix ix_list ha hb hs) (lift_op l_ixScr (fun _ _ _ h => h) fun _ _ _ h => h)
/-- walked: a list or a tuple -/
def iEither (K : PySem.W.Frag) (tl : TE) : TI := fun σ H R => tl σ H fun x H1 => ∃ a, x = .ref a ∧ (((∃ xs, SqL K H1 a xs) ∧ R (Itl K a) H1) ∨ ((∃ xs, SqT K H1 a xs) ∧ R (Itt K a) H1))
theorem pi_either {tg l : Expr} {tl : TE} (hl : PE X l tl) : PI X tg l (iEither X.K tl) := by
  refine ⟨fun pins s σ H R I h => thn (hl.run pins s σ H _ I h) fun v s1 ⟨x, H1, I1, r1, a, ea, q1⟩ => ?_⟩
  subst ea
  cases r1
  have fresh : ∀ b ∈ [s1.heap.objs.size], FpOk X pins H1 b := fun b hb => by
    rw [List.mem_singleton.mp hb]
    exact I1.fpOk (Nat.le_refl _) (I1.hok.fresh (Nat.le_refl _))
  rcases q1 with ⟨⟨xs, hq⟩, q⟩ | ⟨⟨xs, hq⟩, q⟩
  · obtain ⟨its, _, pl, _⟩ := I1.list hq
    exact wpAny_pyIter_list pl.isList ⟨_, [_], _, _, H1, rfl, I1.kept (t' := s1.toks) fun b o e => Heap.get?_push_of_some _ e, turn_list a _, ⟨_, Heap.get?_push_size _ rfl, rfl, rfl⟩, fresh, q⟩
  · obtain ⟨its, _, pl, _⟩ := I1.tuple hq
    exact wpAny_pyIter_tuple (show s1.heap.IsTuple a its.toArray from pl) ⟨_, [_], _, _, H1, rfl, I1.kept (t' := s1.toks) fun b o e => Heap.get?_push_of_some _ e, turn_tuple a _, ⟨_, Heap.get?_push_size _ rfl, rfl, rfl⟩, fresh, q⟩
@[simp] def iS (α : DTE) : DTA := fun ρ k => α ρ fun d ρ1 => ∃ xs, items d = some xs ∧ k xs ρ1
theorem di_any {tg e : Expr} {α : DTE} (h : PE X e (tD X.K α)) : PI X tg e (tDI X.K (iS α)) := PI.weak (pi_either h) fun σ H R h => by
  obtain ⟨B, S, ρ, k, rfl, r, h, c⟩ := h
  refine ⟨B, S, ρ, _, rfl, r, h, fun v d ρ1 S1 e1 r1 q1 h1 => ?_⟩
  obtain ⟨xs, hi, h1⟩ := h1
  cases q1 with
  | tup hs hr =>
    cases hi
    exact ⟨_, rfl, .inr ⟨⟨_, r1.gr.dh.sqT hs⟩, c _ ρ1 S1 _ e1 r1 (walk_tup hs hr) h1⟩⟩
  | lst hs hr =>
    cases hi
    exact ⟨_, rfl, .inl ⟨⟨_, SqL.of (r1.gr.dh _ _ hs)⟩, c _ ρ1 S1 _ e1 r1 (walk_lst (SqL.of hs) hr) h1⟩⟩
  | non => cases hi
  | bl _ => cases hi
  | int _ => cases hi
  | str _ => cases hi
  | scr _ => cases hi
  | dT _ _ => cases hi
  | fzt _ _ _ => cases hi
end
end DL
end
section
set_option Elab.async false
set_option maxRecDepth 100000
namespace DL
open PySem L2
/-! The row's defs, and what is known of names. -/
abbrev oAdd : DR2 := dI0 fun i j => i + j
abbrev oSub : DR2 := dI0 fun i j => i - j
abbrev oMul : DR2 := dI CMul fun i j => i * j
abbrev oMod : DR2 := dI (fun _ j => 0 < j) fun i j => i % j
abbrev oDiv : DR2 := dI CDiv fun i j => i / j
abbrev oPow : DR2 := dI CPow fun i j => i ^ j.toNat
abbrev oLt : DR2 := dIB fun i j => decide (i < j)
abbrev oLe : DR2 := dIB fun i j => decide (i ≤ j)
abbrev oGt : DR2 := dIB fun i j => decide (j < i)
abbrev oGe : DR2 := dIB fun i j => decide (j ≤ i)
theorem bt_int : bootBuiltins "int" = some (.type "int") := by decide +kernel
theorem bt_bool : bootBuiltins "bool" = some (.type "bool") := by decide +kernel
theorem bt_tuple : bootBuiltins "tuple" = some (.type "tuple") := by decide +kernel
theorem bt_str : bootBuiltins "str" = some (.type "str") := by decide +kernel
theorem hu65 {k : Nat} {A : Around} (r : Room k A) : A.units + 65 < cLine := by have := r.un; omega
theorem hu62 {k : Nat} {A : Around} (r : Room k A) : A.units + 62 < cLine := by have := r.un; omega
theorem hu1 {k : Nat} {A : Around} (r : Room k A) : A.units + 1 < cLine := by have := r.un; omega
/-- what is known of the module's other names -/
structure Glo (K : PySem.W.Frag) (w : World) (mg : Str → Option Value) : Prop where
  isinstance : mg "isinstance" = none
  len : mg "len" = none
  range : mg "range" = none
  tuple_ : mg "tuple" = none
  list : mg "list" = none
  sorted : mg "sorted" = none
  all : mg "all" = none
  max : mg "max" = none
  int_ : mg "int" = none
  bool_ : mg "bool" = none
  str_ : mg "str" = none
  repr_ : mg "repr" = none
  enumerate : mg "enumerate" = none
  things : ∃ t, mg "MOST_THINGS" = some (.int 24 t)
  rooms : ∃ t, mg "MOST_ROOMS" = some (.int 4 t)
  sayings : ∃ t, mg "MOST_SAYINGS" = some (.int 400 t)
  turned : ∃ d, mg "TURNED" = some (.ref d) ∧ ∀ q ∈ [(("apart" : Str), ("apart" : Str)), ("in", "around"), ("around", "in")], KDct K w d q.1 (.str q.2)
  apart : ∃ a, mg "APART" = some (.ref a) ∧ ∀ H, Rep K H (.ref a) (.tuple [.str "apart", .int 0])
section
variable {X : Cx} (G : Glo X.K X.w X.mg) {pos : Pos}
include G
theorem Glo.c_MOST_THINGS (hg : Gl X "MOST_THINGS") : PE X (.Name "MOST_THINGS" pos) (tD X.K (dC (.int 24))) := de_glob (v := .int 24) hg G.things.choose_spec ⟨_, rfl⟩ fun _ => .int _
theorem Glo.c_MOST_ROOMS (hg : Gl X "MOST_ROOMS") : PE X (.Name "MOST_ROOMS" pos) (tD X.K (dC (.int 4))) := de_glob (v := .int 4) hg G.rooms.choose_spec ⟨_, rfl⟩ fun _ => .int _
theorem Glo.c_MOST_SAYINGS (hg : Gl X "MOST_SAYINGS") : PE X (.Name "MOST_SAYINGS" pos) (tD X.K (dC (.int 400))) := de_glob (v := .int 400) hg G.sayings.choose_spec ⟨_, rfl⟩ fun _ => .int _
theorem Glo.c_APART (hg : Gl X "APART") : PE X (.Name "APART" pos) (tD X.K (dC (.tuple [.str "apart", .int 0]))) := de_glob (v := .ref G.apart.choose) hg G.apart.choose_spec.1 rfl G.apart.choose_spec.2
theorem Glo.turn {b : Expr} {β : DTE} {p : Pos} (hg : Gl X "TURNED") (hb : PE X b (tD X.K β)) (hs : PlainIx b := by intro _ _; rfl) : PE X (.Subscript (.Name "TURNED" p) b pos) (tD X.K (dTab [("apart", "apart"), ("in", "around"), ("around", "in")] β)) :=
  de_ktab hg G.turned.choose_spec.1 G.turned.choose_spec.2 hb hs
end
end DL
end
section
set_option Elab.async false
set_option maxRecDepth 100000
set_option linter.unusedVariables false
set_option maxHeartbeats 0
namespace DL
open PySem L2 L2.DC L2.GD
abbrev s_is_whole : Stmt := top 17
abbrev N_is_whole : List Str := ["value"]
theorem sc_is_whole : FnScope N_is_whole ["value"] (defScope s_is_whole) := ⟨rfl, rfl, rfl, by decide +kernel, rfl, by decide +kernel, by decide +kernel⟩
def d_is_whole : DTS :=
 (dRet (dAndV (dIsi "int" (dVar 0)) (dNotV (dIsi "bool" (dVar 0)))))
theorem w_is_whole {P : Program} {w : World} {K : PySem.W.Frag} {mg : Str → Option Value} {base : Heap} (G : Glo K w mg) {f : Addr} {cdv : Value} {A : Around} {outer : List PySem.Env} {s : Shared} {H : Hp} {E : XK} (hr : Room 0 (bodyX P w K mg base N_is_whole "is_whole" s_is_whole f cdv A outer s H E).A) :
  PSs (bodyX P w K mg base N_is_whole "is_whole" s_is_whole f cdv A outer s H E) (defBody s_is_whole) (tDS K (d_is_whole)) :=
 have nd := sc_is_whole.nd
 (ds_one (ds_ret (de_and (de_isi (T := "int") rfl G.isinstance (dv 0) (pe_bltn (v := .ty "int") rfl G.int_ bt_int rfl)) (de_one (de_not (de_isi (T := "bool") rfl G.isinstance (dv 0) (pe_bltn (v := .ty "bool") rfl G.bool_ bt_bool rfl)))))))
abbrev s_made_rooms : Stmt := top 18
abbrev N_made_rooms : List Str := ["thing", "x", "many"]
theorem sc_made_rooms : FnScope N_made_rooms ["thing"] (defScope s_made_rooms) := ⟨rfl, rfl, rfl, by decide +kernel, rfl, by decide +kernel, by decide +kernel⟩
def d_made_rooms (p_is_whole : DRn) : DTS :=
 (dSeq (dIfS (dNot (dTst (dIsi "tuple" (dVar 0)))) dNever dNext)
 (dSeq (dIfS (dTst (dOp oGt (dCB dLen (dCons (dVar 0) dNil)) (dC (.int 24)))) dNever dNext)
 (dSeq (dFor (iEn (dCons (dVar 0) dNil)) (gT 2 (gsC (gN 1) (gsC (gN 2) gs0))) (dIfS (dOr (dNot (dTst (dCB p_is_whole (dCons (dVar 2) dNil)))) (dNot (dTst (dChain oLe oLe (dC (.int 0)) (dVar 2) (dC (.int 4)))))) dNever dNext))
 (dRet (dVar 0)))))
theorem w_made_rooms {P : Program} {w : World} {K : PySem.W.Frag} {mg : Str → Option Value} {base : Heap} (G : Glo K w mg) {p_is_whole : DRn} (c_is_whole : Cl P w K mg base "is_whole" ["value"] 1 p_is_whole) {f : Addr} {cdv : Value} {A : Around} {outer : List PySem.Env} {s : Shared} {H : Hp} {E : XK} (hr : Room 1 (bodyX P w K mg base N_made_rooms "made_rooms" s_made_rooms f cdv A outer s H E).A) :
  PSs (bodyX P w K mg base N_made_rooms "made_rooms" s_made_rooms f cdv A outer s H E) (defBody s_made_rooms) (tDS K (d_made_rooms p_is_whole)) :=
 have nd := sc_made_rooms.nd
 (ds_cons (ds_if (dt_not (dt_val (de_isi (T := "tuple") rfl G.isinstance (dv 0) (pe_bltn (v := .ty "tuple") rfl G.tuple_ bt_tuple rfl)))) (ds_one ds_never) ds_nil)
 (ds_cons (ds_if (dt_cmp op_gt l_IB (de_len rfl G.len (da_cons (dv 0) da_nil)) (G.c_MOST_THINGS rfl) (nomark _)) (ds_one ds_never) ds_nil)
 (ds_cons (ds_for PassesOwn.never rfl (di_enum rfl G.enumerate (da_cons (dv 0) da_nil)) (dg_tup rfl (dgs_cons (dg_name (i := 1) nd rfl (Or.inl rfl)) (dgs_cons (dg_name (i := 2) nd rfl (Or.inl rfl)) dgs_nil))) (ds_one (ds_if (PW.pt (dw_or (dt_not (dt_val (de_call c_is_whole hr (by decide) rfl (da_cons (dv 2) da_nil)))) (dw_or1 (dt_not (dt_chain op_le l_IB op_le l_IB de_int (dv 2) (G.c_MOST_ROOMS rfl)))))) (ds_one ds_never) ds_nil)))
 (ds_one (ds_ret (dv 0))))))
abbrev s_is_rooms : Stmt := top 19
abbrev N_is_rooms : List Str := ["thing", "many"]
theorem sc_is_rooms : FnScope N_is_rooms ["thing"] (defScope s_is_rooms) := ⟨rfl, rfl, rfl, by decide +kernel, rfl, by decide +kernel, by decide +kernel⟩
def d_is_rooms (p_is_whole : DRn) : DTS :=
 (dSeq (dIfS (dOr (dNot (dTst (dIsi "tuple" (dVar 0)))) (dTst (dOp oGt (dCB dLen (dCons (dVar 0) dNil)) (dC (.int 24))))) (dRet (dC (.bool false))) dNext)
 (dRet (dOp dEq (dPub (dLc (iT (dVar 0)) (gN 1) (dOr (dNot (dTst (dCB p_is_whole (dCons (dVar 1) dNil)))) (dNot (dTst (dChain oLe oLe (dC (.int 0)) (dVar 1) (dC (.int 4)))))) (dVar 1) [1])) (dLst dNil))))
theorem w_is_rooms {P : Program} {w : World} {K : PySem.W.Frag} {mg : Str → Option Value} {base : Heap} (G : Glo K w mg) {p_is_whole : DRn} (c_is_whole : Cl P w K mg base "is_whole" ["value"] 1 p_is_whole) {f : Addr} {cdv : Value} {A : Around} {outer : List PySem.Env} {s : Shared} {H : Hp} {E : XK} (hr : Room 1 (bodyX P w K mg base N_is_rooms "is_rooms" s_is_rooms f cdv A outer s H E).A) :
  PSs (bodyX P w K mg base N_is_rooms "is_rooms" s_is_rooms f cdv A outer s H E) (defBody s_is_rooms) (tDS K (d_is_rooms p_is_whole)) :=
 have nd := sc_is_rooms.nd
 (ds_cons (ds_if (PW.pt (dw_or (dt_not (dt_val (de_isi (T := "tuple") rfl G.isinstance (dv 0) (pe_bltn (v := .ty "tuple") rfl G.tuple_ bt_tuple rfl)))) (dw_or1 (dt_cmp op_gt l_IB (de_len rfl G.len (da_cons (dv 0) da_nil)) (G.c_MOST_THINGS rfl) (nomark _))))) (ds_one (ds_ret de_bl)) ds_nil)
 (ds_one (ds_ret (de_cmp (op_eqD hr.units) l_eq (de_lc (own := [("many", 1)]) rfl nd (di_tup (dv 0)) (blkOk_by (N := N_is_rooms) (sc := (defScope s_is_rooms)) (by decide +kernel)) (fun _ _ _ _ _ => (dg_name (i := 1) nd rfl (Or.inl rfl))) (fun _ _ _ _ _ => (dts_one (PW.pt (dw_or (dt_not (dt_val (de_call c_is_whole hr (by decide) rfl (da_cons (dv 1) da_nil)))) (dw_or1 (dt_not (dt_chain op_le l_IB op_le l_IB de_int (dv 1) (G.c_MOST_ROOMS rfl)))))))) (fun _ _ _ _ _ => (dv 1))) (de_lst da_nil) (nomark _)))))
abbrev s_is_thing : Stmt := top 20
abbrev N_is_thing : List Str := ["rooms", "x"]
theorem sc_is_thing : FnScope N_is_thing ["rooms", "x"] (defScope s_is_thing) := ⟨rfl, rfl, rfl, by decide +kernel, rfl, by decide +kernel, by decide +kernel⟩
def d_is_thing (p_is_whole : DRn) : DTS :=
 (dRet (dAndV (dCB p_is_whole (dCons (dVar 1) dNil)) (dChain oLe oLt (dC (.int 0)) (dVar 1) (dCB dLen (dCons (dVar 0) dNil)))))
theorem w_is_thing {P : Program} {w : World} {K : PySem.W.Frag} {mg : Str → Option Value} {base : Heap} (G : Glo K w mg) {p_is_whole : DRn} (c_is_whole : Cl P w K mg base "is_whole" ["value"] 1 p_is_whole) {f : Addr} {cdv : Value} {A : Around} {outer : List PySem.Env} {s : Shared} {H : Hp} {E : XK} (hr : Room 1 (bodyX P w K mg base N_is_thing "is_thing" s_is_thing f cdv A outer s H E).A) :
  PSs (bodyX P w K mg base N_is_thing "is_thing" s_is_thing f cdv A outer s H E) (defBody s_is_thing) (tDS K (d_is_thing p_is_whole)) :=
 have nd := sc_is_thing.nd
 (ds_one (ds_ret (de_and (de_call c_is_whole hr (by decide) rfl (da_cons (dv 1) da_nil)) (de_one (de_chain op_le l_IB op_lt l_IB de_int (dv 1) (de_len rfl G.len (da_cons (dv 0) da_nil)))))))
abbrev s_is_place : Stmt := top 22
abbrev N_is_place : List Str := ["rooms", "x", "place", "holder", "room"]
theorem sc_is_place : FnScope N_is_place ["rooms", "x", "place"] (defScope s_is_place) := ⟨rfl, rfl, rfl, by decide +kernel, rfl, by decide +kernel, by decide +kernel⟩
def d_is_place (p_is_whole : DRn) : DTS :=
 (dSeq (dIfS (dTst (dOp dIsN (dVar 2) (dC .none))) (dRet (dC (.bool true))) dNext)
 (dSeq (dIfS (dOr (dNot (dTst (dIsi "tuple" (dVar 2)))) (dOr (dTst (dOp dNe (dCB dLen (dCons (dVar 2) dNil)) (dC (.int 2)))) (dOr (dNot (dTst (dCB p_is_whole (dCons (dOp dIx (dVar 2) (dC (.int 0))) dNil)))) (dNot (dTst (dCB p_is_whole (dCons (dOp dIx (dVar 2) (dC (.int 1))) dNil))))))) (dRet (dC (.bool false))) dNext)
 (dSeq (dAsg (dVar 2) (gT 2 (gsC (gN 3) (gsC (gN 4) gs0))))
 (dRet (dAndV (dChain oLe oLt (dC (.int 0)) (dVar 3) (dCB dLen (dCons (dVar 0) dNil))) (dAndV (dOp dNe (dVar 3) (dVar 1)) (dChain oLe oLt (dC (.int 0)) (dVar 4) (dOp dIx (dVar 0) (dVar 3)))))))))
theorem w_is_place {P : Program} {w : World} {K : PySem.W.Frag} {mg : Str → Option Value} {base : Heap} (G : Glo K w mg) {p_is_whole : DRn} (c_is_whole : Cl P w K mg base "is_whole" ["value"] 1 p_is_whole) {f : Addr} {cdv : Value} {A : Around} {outer : List PySem.Env} {s : Shared} {H : Hp} {E : XK} (hr : Room 1 (bodyX P w K mg base N_is_place "is_place" s_is_place f cdv A outer s H E).A) :
  PSs (bodyX P w K mg base N_is_place "is_place" s_is_place f cdv A outer s H E) (defBody s_is_place) (tDS K (d_is_place p_is_whole)) :=
 have nd := sc_is_place.nd
 (ds_cons (ds_if (dt_cmp op_isN l_isN (dv 2) de_non (nomark _)) (ds_one (ds_ret de_bl)) ds_nil)
 (ds_cons (ds_if (PW.pt (dw_or (dt_not (dt_val (de_isi (T := "tuple") rfl G.isinstance (dv 2) (pe_bltn (v := .ty "tuple") rfl G.tuple_ bt_tuple rfl)))) (dw_or (dt_cmp (op_neD hr.units) l_ne (de_len rfl G.len (da_cons (dv 2) da_nil)) de_int (nomark _)) (dw_or (dt_not (dt_val (de_call c_is_whole hr (by decide) rfl (da_cons (de_ix (dv 2) de_int) da_nil)))) (dw_or1 (dt_not (dt_val (de_call c_is_whole hr (by decide) rfl (da_cons (de_ix (dv 2) de_int) da_nil))))))))) (ds_one (ds_ret de_bl)) ds_nil)
 (ds_cons (ds_asg (dv 2) (dg_tup rfl (dgs_cons (dg_name (i := 3) nd rfl (Or.inl rfl)) (dgs_cons (dg_name (i := 4) nd rfl (Or.inl rfl)) dgs_nil))))
 (ds_one (ds_ret (de_and (de_chain op_le l_IB op_lt l_IB de_int (dv 3) (de_len rfl G.len (da_cons (dv 0) da_nil))) (de_and (de_cmp (op_neD hr.units) l_ne (dv 3) (dv 1) (nomark _)) (de_one (de_chain op_le l_IB op_lt l_IB de_int (dv 4) (de_ix (dv 0) (dv 3)))))))))))
abbrev s_lies_in_itself : Stmt := top 23
abbrev N_lies_in_itself : List Str := ["forest", "x", "here", "_"]
theorem sc_lies_in_itself : FnScope N_lies_in_itself ["forest", "x"] (defScope s_lies_in_itself) := ⟨rfl, rfl, rfl, by decide +kernel, rfl, by decide +kernel, by decide +kernel⟩
def d_lies_in_itself : DTS :=
 (dSeq (dSet 2 (dVar 1))
 (dSeq (dFor (iR1 (dCons (dCB dLen (dCons (dVar 0) dNil)) dNil)) (gN 3) (dSeq (dIfS (dTst (dOp dIsN (dOp dIx (dVar 0) (dVar 2)) (dC .none))) (dRet (dC (.bool false))) dNext)
 (dSeq (dSet 2 (dOp dIx (dOp dIx (dVar 0) (dVar 2)) (dC (.int 0))))
 (dIfS (dTst (dOp dEq (dVar 2) (dVar 1))) (dRet (dC (.bool true))) dNext))))
 (dRet (dC (.bool false)))))
theorem w_lies_in_itself {P : Program} {w : World} {K : PySem.W.Frag} {mg : Str → Option Value} {base : Heap} (G : Glo K w mg) {f : Addr} {cdv : Value} {A : Around} {outer : List PySem.Env} {s : Shared} {H : Hp} {E : XK} (hr : Room 0 (bodyX P w K mg base N_lies_in_itself "lies_in_itself" s_lies_in_itself f cdv A outer s H E).A) :
  PSs (bodyX P w K mg base N_lies_in_itself "lies_in_itself" s_lies_in_itself f cdv A outer s H E) (defBody s_lies_in_itself) (tDS K (d_lies_in_itself)) :=
 have nd := sc_lies_in_itself.nd
 (ds_cons (ds_set (i := 2) nd rfl (Or.inl rfl) (dv 1))
 (ds_cons (ds_for PassesOwn.never rfl (di_range1 rfl G.range (da_cons (de_len rfl G.len (da_cons (dv 0) da_nil)) da_nil)) (dg_name (i := 3) nd rfl (Or.inl rfl)) (ds_cons (ds_if (dt_cmp op_isN l_isN (de_ix (dv 0) (dv 2)) de_non (nomark _)) (ds_one (ds_ret de_bl)) ds_nil)
 (ds_cons (ds_set (i := 2) nd rfl (Or.inl rfl) (de_ix (de_ix (dv 0) (dv 2)) de_int))
 (ds_one (ds_if (dt_cmp (op_eqD hr.units) l_eq (dv 2) (dv 1) (nomark _)) (ds_one (ds_ret de_bl)) ds_nil)))))
 (ds_one (ds_ret de_bl))))
abbrev s_first_bad : Stmt := top 24
abbrev N_first_bad : List Str := ["rooms", "forest", "x", "place"]
theorem sc_first_bad : FnScope N_first_bad ["rooms", "forest"] (defScope s_first_bad) := ⟨rfl, rfl, rfl, by decide +kernel, rfl, by decide +kernel, by decide +kernel⟩
def d_first_bad (p_is_place : DRn) : DTS :=
 (dSeq (dFor (iEn (dCons (dVar 1) dNil)) (gT 2 (gsC (gN 2) (gsC (gN 3) gs0))) (dIfS (dNot (dTst (dCB p_is_place (dCons (dVar 0) (dCons (dVar 2) (dCons (dVar 3) dNil)))))) (dRet (dVar 2)) dNext))
 (dRet (dC .none)))
theorem w_first_bad {P : Program} {w : World} {K : PySem.W.Frag} {mg : Str → Option Value} {base : Heap} (G : Glo K w mg) {p_is_place : DRn} (c_is_place : Cl P w K mg base "is_place" ["rooms", "x", "place"] 2 p_is_place) {f : Addr} {cdv : Value} {A : Around} {outer : List PySem.Env} {s : Shared} {H : Hp} {E : XK} (hr : Room 2 (bodyX P w K mg base N_first_bad "first_bad" s_first_bad f cdv A outer s H E).A) :
  PSs (bodyX P w K mg base N_first_bad "first_bad" s_first_bad f cdv A outer s H E) (defBody s_first_bad) (tDS K (d_first_bad p_is_place)) :=
 have nd := sc_first_bad.nd
 (ds_cons (ds_for PassesOwn.never rfl (di_enum rfl G.enumerate (da_cons (dv 1) da_nil)) (dg_tup rfl (dgs_cons (dg_name (i := 2) nd rfl (Or.inl rfl)) (dgs_cons (dg_name (i := 3) nd rfl (Or.inl rfl)) dgs_nil))) (ds_one (ds_if (dt_not (dt_val (de_call c_is_place hr (by decide) rfl (da_cons (dv 0) (da_cons (dv 2) (da_cons (dv 3) da_nil)))))) (ds_one (ds_ret (dv 2))) ds_nil)))
 (ds_one (ds_ret de_non)))
abbrev s_first_ring : Stmt := top 25
abbrev N_first_ring : List Str := ["forest", "x"]
theorem sc_first_ring : FnScope N_first_ring ["forest"] (defScope s_first_ring) := ⟨rfl, rfl, rfl, by decide +kernel, rfl, by decide +kernel, by decide +kernel⟩
def d_first_ring (p_lies_in_itself : DRn) : DTS :=
 (dSeq (dFor (iR1 (dCons (dCB dLen (dCons (dVar 0) dNil)) dNil)) (gN 1) (dIfS (dTst (dCB p_lies_in_itself (dCons (dVar 0) (dCons (dVar 1) dNil)))) (dRet (dVar 1)) dNext))
 (dRet (dC .none)))
theorem w_first_ring {P : Program} {w : World} {K : PySem.W.Frag} {mg : Str → Option Value} {base : Heap} (G : Glo K w mg) {p_lies_in_itself : DRn} (c_lies_in_itself : Cl P w K mg base "lies_in_itself" ["forest", "x"] 1 p_lies_in_itself) {f : Addr} {cdv : Value} {A : Around} {outer : List PySem.Env} {s : Shared} {H : Hp} {E : XK} (hr : Room 1 (bodyX P w K mg base N_first_ring "first_ring" s_first_ring f cdv A outer s H E).A) :
  PSs (bodyX P w K mg base N_first_ring "first_ring" s_first_ring f cdv A outer s H E) (defBody s_first_ring) (tDS K (d_first_ring p_lies_in_itself)) :=
 have nd := sc_first_ring.nd
 (ds_cons (ds_for PassesOwn.never rfl (di_range1 rfl G.range (da_cons (de_len rfl G.len (da_cons (dv 0) da_nil)) da_nil)) (dg_name (i := 1) nd rfl (Or.inl rfl)) (ds_one (ds_if (dt_val (de_call c_lies_in_itself hr (by decide) rfl (da_cons (dv 0) (da_cons (dv 1) da_nil)))) (ds_one (ds_ret (dv 1))) ds_nil)))
 (ds_one (ds_ret de_non)))
abbrev s_made_forest : Stmt := top 26
abbrev N_made_forest : List Str := ["rooms", "forest", "bad", "ring", "place"]
theorem sc_made_forest : FnScope N_made_forest ["rooms", "forest"] (defScope s_made_forest) := ⟨rfl, rfl, rfl, by decide +kernel, rfl, by decide +kernel, by decide +kernel⟩
def d_made_forest (p_made_rooms : DRn) (p_first_bad : DRn) (p_first_ring : DRn) : DTS :=
 (dSeq (dSet 0 (dCB p_made_rooms (dCons (dVar 0) dNil)))
 (dSeq (dIfS (dOr (dNot (dTst (dIsi "tuple" (dVar 1)))) (dTst (dOp dNe (dCB dLen (dCons (dVar 1) dNil)) (dCB dLen (dCons (dVar 0) dNil))))) dNever dNext)
 (dSeq (dSet 2 (dCB p_first_bad (dCons (dVar 0) (dCons (dVar 1) dNil))))
 (dSeq (dIfS (dTst (dOp dNotN (dVar 2) (dC .none))) dNever dNext)
 (dSeq (dSet 3 (dCB p_first_ring (dCons (dVar 1) dNil)))
 (dSeq (dIfS (dTst (dOp dNotN (dVar 3) (dC .none))) dNever dNext)
 (dRet (dCB dTupL (dCons (dPub (dLc (iT (dVar 1)) (gN 4) dYes (dIf (dTst (dOp dIsN (dVar 4) (dC .none))) (dC .none) (dTup (dCons (dOp dIx (dVar 4) (dC (.int 0))) (dCons (dOp dIx (dVar 4) (dC (.int 1))) dNil)))) [4])) dNil)))))))))
theorem w_made_forest {P : Program} {w : World} {K : PySem.W.Frag} {mg : Str → Option Value} {base : Heap} (G : Glo K w mg) {p_made_rooms : DRn} (c_made_rooms : Cl P w K mg base "made_rooms" ["thing"] 2 p_made_rooms) {p_first_bad : DRn} (c_first_bad : Cl P w K mg base "first_bad" ["rooms", "forest"] 3 p_first_bad) {p_first_ring : DRn} (c_first_ring : Cl P w K mg base "first_ring" ["forest"] 2 p_first_ring) {f : Addr} {cdv : Value} {A : Around} {outer : List PySem.Env} {s : Shared} {H : Hp} {E : XK} (hr : Room 3 (bodyX P w K mg base N_made_forest "made_forest" s_made_forest f cdv A outer s H E).A) :
  PSs (bodyX P w K mg base N_made_forest "made_forest" s_made_forest f cdv A outer s H E) (defBody s_made_forest) (tDS K (d_made_forest p_made_rooms p_first_bad p_first_ring)) :=
 have nd := sc_made_forest.nd
 (ds_cons (ds_set (i := 0) nd rfl (Or.inl rfl) (de_call c_made_rooms hr (by decide) rfl (da_cons (dv 0) da_nil)))
 (ds_cons (ds_if (PW.pt (dw_or (dt_not (dt_val (de_isi (T := "tuple") rfl G.isinstance (dv 1) (pe_bltn (v := .ty "tuple") rfl G.tuple_ bt_tuple rfl)))) (dw_or1 (dt_cmp (op_neD hr.units) l_ne (de_len rfl G.len (da_cons (dv 1) da_nil)) (de_len rfl G.len (da_cons (dv 0) da_nil)) (nomark _))))) (ds_one ds_never) ds_nil)
 (ds_cons (ds_set (i := 2) nd rfl (Or.inl rfl) (de_call c_first_bad hr (by decide) rfl (da_cons (dv 0) (da_cons (dv 1) da_nil))))
 (ds_cons (ds_if (dt_cmp op_notN l_notN (dv 2) de_non (nomark _)) (ds_one ds_never) ds_nil)
 (ds_cons (ds_set (i := 3) nd rfl (Or.inl rfl) (de_call c_first_ring hr (by decide) rfl (da_cons (dv 1) da_nil)))
 (ds_cons (ds_if (dt_cmp op_notN l_notN (dv 3) de_non (nomark _)) (ds_one ds_never) ds_nil)
 (ds_one (ds_ret (de_tupL rfl G.tuple_ (da_cons (de_lc (own := [("place", 4)]) rfl nd (di_tup (dv 1)) (blkOk_by (N := N_made_forest) (sc := (defScope s_made_forest)) (by decide +kernel)) (fun _ _ _ _ _ => (dg_name (i := 4) nd rfl (Or.inl rfl))) (fun _ _ _ _ _ => dts_nil) (fun _ _ _ _ _ => (de_if (dt_cmp op_isN l_isN (dv 4) de_non (nomark _)) de_non (de_tup (da_cons (de_ix (dv 4) de_int) (da_cons (de_ix (dv 4) de_int) da_nil)))))) da_nil))))))))))
abbrev s_is_forest : Stmt := top 27
abbrev N_is_forest : List Str := ["rooms", "forest"]
theorem sc_is_forest : FnScope N_is_forest ["rooms", "forest"] (defScope s_is_forest) := ⟨rfl, rfl, rfl, by decide +kernel, rfl, by decide +kernel, by decide +kernel⟩
def d_is_forest (p_is_rooms : DRn) (p_first_bad : DRn) (p_first_ring : DRn) : DTS :=
 (dSeq (dIfS (dOr (dNot (dTst (dCB p_is_rooms (dCons (dVar 0) dNil)))) (dOr (dNot (dTst (dIsi "tuple" (dVar 1)))) (dTst (dOp dNe (dCB dLen (dCons (dVar 1) dNil)) (dCB dLen (dCons (dVar 0) dNil)))))) (dRet (dC (.bool false))) dNext)
 (dRet (dAndV (dOp dIsN (dCB p_first_bad (dCons (dVar 0) (dCons (dVar 1) dNil))) (dC .none)) (dOp dIsN (dCB p_first_ring (dCons (dVar 1) dNil)) (dC .none)))))
theorem w_is_forest {P : Program} {w : World} {K : PySem.W.Frag} {mg : Str → Option Value} {base : Heap} (G : Glo K w mg) {p_is_rooms : DRn} (c_is_rooms : Cl P w K mg base "is_rooms" ["thing"] 2 p_is_rooms) {p_first_bad : DRn} (c_first_bad : Cl P w K mg base "first_bad" ["rooms", "forest"] 3 p_first_bad) {p_first_ring : DRn} (c_first_ring : Cl P w K mg base "first_ring" ["forest"] 2 p_first_ring) {f : Addr} {cdv : Value} {A : Around} {outer : List PySem.Env} {s : Shared} {H : Hp} {E : XK} (hr : Room 3 (bodyX P w K mg base N_is_forest "is_forest" s_is_forest f cdv A outer s H E).A) :
  PSs (bodyX P w K mg base N_is_forest "is_forest" s_is_forest f cdv A outer s H E) (defBody s_is_forest) (tDS K (d_is_forest p_is_rooms p_first_bad p_first_ring)) :=
 have nd := sc_is_forest.nd
 (ds_cons (ds_if (PW.pt (dw_or (dt_not (dt_val (de_call c_is_rooms hr (by decide) rfl (da_cons (dv 0) da_nil)))) (dw_or (dt_not (dt_val (de_isi (T := "tuple") rfl G.isinstance (dv 1) (pe_bltn (v := .ty "tuple") rfl G.tuple_ bt_tuple rfl)))) (dw_or1 (dt_cmp (op_neD hr.units) l_ne (de_len rfl G.len (da_cons (dv 1) da_nil)) (de_len rfl G.len (da_cons (dv 0) da_nil)) (nomark _)))))) (ds_one (ds_ret de_bl)) ds_nil)
 (ds_one (ds_ret (de_and (de_cmp op_isN l_isN (de_call c_first_bad hr (by decide) rfl (da_cons (dv 0) (da_cons (dv 1) da_nil))) de_non (nomark _)) (de_one (de_cmp op_isN l_isN (de_call c_first_ring hr (by decide) rfl (da_cons (dv 1) da_nil)) de_non (nomark _)))))))
abbrev s_around : Stmt := top 28
abbrev N_around : List Str := ["forest", "x", "told", "place"]
theorem sc_around : FnScope N_around ["forest", "x"] (defScope s_around) := ⟨rfl, rfl, rfl, by decide +kernel, rfl, by decide +kernel, by decide +kernel⟩
def d_around : DTS :=
 (dSeq (dSetF 2 (dLstF dNil))
 (dSeq (dSet 3 (dOp dIx (dVar 0) (dVar 1)))
 (dSeq (dWhile (dTst (dOp dNotN (dVar 3) (dC .none))) (dSeq (dDrop (dApp 2 (dOp dIx (dVar 3) (dC (.int 0)))))
 (dSet 3 (dOp dIx (dVar 0) (dOp dIx (dVar 3) (dC (.int 0)))))))
 (dRet (dTupO 2)))))
theorem w_around {P : Program} {w : World} {K : PySem.W.Frag} {mg : Str → Option Value} {base : Heap} (G : Glo K w mg) {f : Addr} {cdv : Value} {A : Around} {outer : List PySem.Env} {s : Shared} {H : Hp} {E : XK} (hr : Room 0 (bodyX P w K mg base N_around "around" s_around f cdv A outer s H E).A) :
  PSs (bodyX P w K mg base N_around "around" s_around f cdv A outer s H E) (defBody s_around) (tDS K (d_around)) :=
 have nd := sc_around.nd
 (ds_cons (ds_setF (i := 2) nd rfl (Or.inl rfl) (df_lst da_nil))
 (ds_cons (ds_set (i := 3) nd rfl (Or.inl rfl) (de_ix (dv 0) (dv 1)))
 (ds_cons (ds_while PassesOwn.never (dt_cmp op_notN l_notN (dv 3) de_non (nomark _)) (ds_cons (ds_expr (de_app (L2.pv 2) (de_ix (dv 3) de_int)))
 (ds_one (ds_set (i := 3) nd rfl (Or.inl rfl) (de_ix (dv 0) (de_ix (dv 3) de_int))))))
 (ds_one (ds_ret (de_tupO (L2.pv 2) rfl G.tuple_))))))
abbrev s_room_way : Stmt := top 29
abbrev N_room_way : List Str := ["forest", "x", "y", "place"]
theorem sc_room_way : FnScope N_room_way ["forest", "x", "y"] (defScope s_room_way) := ⟨rfl, rfl, rfl, by decide +kernel, rfl, by decide +kernel, by decide +kernel⟩
def d_room_way : DTS :=
 (dSeq (dSet 3 (dOp dIx (dVar 0) (dVar 1)))
 (dSeq (dWhile (dTst (dOp dNotN (dVar 3) (dC .none))) (dSeq (dIfS (dTst (dOp dEq (dOp dIx (dVar 3) (dC (.int 0))) (dVar 2))) (dRet (dOp dIx (dVar 3) (dC (.int 1)))) dNext)
 (dSet 3 (dOp dIx (dVar 0) (dOp dIx (dVar 3) (dC (.int 0)))))))
 (dRet (dC .none))))
theorem w_room_way {P : Program} {w : World} {K : PySem.W.Frag} {mg : Str → Option Value} {base : Heap} (G : Glo K w mg) {f : Addr} {cdv : Value} {A : Around} {outer : List PySem.Env} {s : Shared} {H : Hp} {E : XK} (hr : Room 0 (bodyX P w K mg base N_room_way "room_way" s_room_way f cdv A outer s H E).A) :
  PSs (bodyX P w K mg base N_room_way "room_way" s_room_way f cdv A outer s H E) (defBody s_room_way) (tDS K (d_room_way)) :=
 have nd := sc_room_way.nd
 (ds_cons (ds_set (i := 3) nd rfl (Or.inl rfl) (de_ix (dv 0) (dv 1)))
 (ds_cons (ds_while PassesOwn.never (dt_cmp op_notN l_notN (dv 3) de_non (nomark _)) (ds_cons (ds_if (dt_cmp (op_eqD hr.units) l_eq (de_ix (dv 3) de_int) (dv 2) (nomark _)) (ds_one (ds_ret (de_ix (dv 3) de_int))) ds_nil)
 (ds_one (ds_set (i := 3) nd rfl (Or.inl rfl) (de_ix (dv 0) (de_ix (dv 3) de_int))))))
 (ds_one (ds_ret de_non))))
abbrev s_within : Stmt := top 30
abbrev N_within : List Str := ["forest", "x", "z"]
theorem sc_within : FnScope N_within ["forest", "x"] (defScope s_within) := ⟨rfl, rfl, rfl, by decide +kernel, rfl, by decide +kernel, by decide +kernel⟩
def d_within (p_around : DRn) : DTS :=
 (dRet (dCB dTupL (dCons (dPub (dLc (iR1 (dCons (dCB dLen (dCons (dVar 0) dNil)) dNil)) (gN 2) (dTst (dOp dIn (dVar 1) (dCB p_around (dCons (dVar 0) (dCons (dVar 2) dNil))))) (dVar 2) [2])) dNil)))
theorem w_within {P : Program} {w : World} {K : PySem.W.Frag} {mg : Str → Option Value} {base : Heap} (G : Glo K w mg) {p_around : DRn} (c_around : Cl P w K mg base "around" ["forest", "x"] 1 p_around) {f : Addr} {cdv : Value} {A : Around} {outer : List PySem.Env} {s : Shared} {H : Hp} {E : XK} (hr : Room 1 (bodyX P w K mg base N_within "within" s_within f cdv A outer s H E).A) :
  PSs (bodyX P w K mg base N_within "within" s_within f cdv A outer s H E) (defBody s_within) (tDS K (d_within p_around)) :=
 have nd := sc_within.nd
 (ds_one (ds_ret (de_tupL rfl G.tuple_ (da_cons (de_lc (own := [("z", 2)]) rfl nd (di_range1 rfl G.range (da_cons (de_len rfl G.len (da_cons (dv 0) da_nil)) da_nil)) (blkOk_by (N := N_within) (sc := (defScope s_within)) (by decide +kernel)) (fun _ _ _ _ _ => (dg_name (i := 2) nd rfl (Or.inl rfl))) (fun _ _ _ _ _ => (dts_one (dt_cmp (op_inS (hu65 hr)) l_in (dv 1) (de_call c_around hr (by decide) rfl (da_cons (dv 0) (da_cons (dv 2) da_nil))) rfl))) (fun _ _ _ _ _ => (dv 2))) da_nil))))
abbrev s_put : Stmt := top 31
abbrev N_put : List Str := ["forest", "x", "place"]
theorem sc_put : FnScope N_put ["forest", "x", "place"] (defScope s_put) := ⟨rfl, rfl, rfl, by decide +kernel, rfl, by decide +kernel, by decide +kernel⟩
def d_put : DTS :=
 (dRet (dOp dCatT (dOp dCatT (dSlT (dVar 0) dNoP (dPart (dVar 1))) (dTup (dCons (dVar 2) dNil))) (dSlT (dVar 0) (dPart (dOp oAdd (dVar 1) (dC (.int 1)))) dNoP)))
theorem w_put {P : Program} {w : World} {K : PySem.W.Frag} {mg : Str → Option Value} {base : Heap} (G : Glo K w mg) {f : Addr} {cdv : Value} {A : Around} {outer : List PySem.Env} {s : Shared} {H : Hp} {E : XK} (hr : Room 0 (bodyX P w K mg base N_put "put" s_put f cdv A outer s H E).A) :
  PSs (bodyX P w K mg base N_put "put" s_put f cdv A outer s H E) (defBody s_put) (tDS K (d_put)) :=
 have nd := sc_put.nd
 (ds_one (ds_ret (de_op op_catA l_catT (de_op op_catA l_catT (de_slT (dv 0) do_none (do_some (dv 1))) (de_tup (da_cons (dv 2) da_nil))) (de_slT (dv 0) (do_some (de_op op_add l_I0 (dv 1) de_int)) do_none))))
abbrev s_all_standings : Stmt := top 35
abbrev N_all_standings : List Str := ["rooms", "x", "y", "inner", "room"]
theorem sc_all_standings : FnScope N_all_standings ["rooms", "x", "y"] (defScope s_all_standings) := ⟨rfl, rfl, rfl, by decide +kernel, rfl, by decide +kernel, by decide +kernel⟩
def d_all_standings : DTS :=
 (dSeq (dSet 3 (dPub (dLc (iR1 (dCons (dOp dIx (dVar 0) (dVar 2)) dNil)) (gN 4) dYes (dTup (dCons (dC (.str "in")) (dCons (dVar 4) dNil))) [4])))
 (dRet (dOp dCatZ (dOp dCatZ (dTupZ (dCons (dC (.tuple [.str "apart", .int 0])) dNil)) (dCB dTupL (dCons (dVar 3) dNil))) (dCB dTupL (dCons (dPub (dLc (iR1 (dCons (dOp dIx (dVar 0) (dVar 1)) dNil)) (gN 4) dYes (dTup (dCons (dC (.str "around")) (dCons (dVar 4) dNil))) [4])) dNil)))))
theorem w_all_standings {P : Program} {w : World} {K : PySem.W.Frag} {mg : Str → Option Value} {base : Heap} (G : Glo K w mg) {f : Addr} {cdv : Value} {A : Around} {outer : List PySem.Env} {s : Shared} {H : Hp} {E : XK} (hr : Room 0 (bodyX P w K mg base N_all_standings "all_standings" s_all_standings f cdv A outer s H E).A) :
  PSs (bodyX P w K mg base N_all_standings "all_standings" s_all_standings f cdv A outer s H E) (defBody s_all_standings) (tDS K (d_all_standings)) :=
 have nd := sc_all_standings.nd
 (ds_cons (ds_setLc (i := 3) (own := [("room", 4)]) rfl nd rfl rfl (sw_true rfl rfl rfl (by decide +kernel)) (di_range1 rfl G.range (da_cons (de_ix (dv 0) (dv 2)) da_nil)) (blkOk_by (N := N_all_standings) (sc := (defScope s_all_standings)) (by decide +kernel)) (fun _ _ _ _ _ => (dg_name (i := 4) nd rfl (Or.inl rfl))) (fun _ _ _ _ _ => dts_nil) (fun _ _ _ _ _ => (de_tup (da_cons de_str (da_cons (dv 4) da_nil)))))
 (ds_one (ds_ret (de_op op_catZ l_catZ (de_op op_catZ l_catZ (de_tupZ (da_cons (G.c_APART rfl) da_nil)) (de_tupL rfl G.tuple_ (da_cons (dv 3) da_nil))) (de_tupL rfl G.tuple_ (da_cons (de_lc (own := [("room", 4)]) rfl nd (di_range1 rfl G.range (da_cons (de_ix (dv 0) (dv 1)) da_nil)) (blkOk_by (N := N_all_standings) (sc := (defScope s_all_standings)) (by decide +kernel)) (fun _ _ _ _ _ => (dg_name (i := 4) nd rfl (Or.inl rfl))) (fun _ _ _ _ _ => dts_nil) (fun _ _ _ _ _ => (de_tup (da_cons de_str (da_cons (dv 4) da_nil))))) da_nil))))))
abbrev s_is_standing : Stmt := top 36
abbrev N_is_standing : List Str := ["rooms", "x", "y", "thing"]
theorem sc_is_standing : FnScope N_is_standing ["rooms", "x", "y", "thing"] (defScope s_is_standing) := ⟨rfl, rfl, rfl, by decide +kernel, rfl, by decide +kernel, by decide +kernel⟩
def d_is_standing (p_is_whole : DRn) (p_all_standings : DRn) : DTS :=
 (dSeq (dIfS (dOr (dNot (dTst (dIsi "tuple" (dVar 3)))) (dOr (dTst (dOp dNe (dCB dLen (dCons (dVar 3) dNil)) (dC (.int 2)))) (dOr (dNot (dTst (dIsi "str" (dOp dIx (dVar 3) (dC (.int 0)))))) (dNot (dTst (dCB p_is_whole (dCons (dOp dIx (dVar 3) (dC (.int 1))) dNil))))))) (dRet (dC (.bool false))) dNext)
 (dRet (dOp dIn (dVar 3) (dCB p_all_standings (dCons (dVar 0) (dCons (dVar 1) (dCons (dVar 2) dNil)))))))
theorem w_is_standing {P : Program} {w : World} {K : PySem.W.Frag} {mg : Str → Option Value} {base : Heap} (G : Glo K w mg) {p_is_whole : DRn} (c_is_whole : Cl P w K mg base "is_whole" ["value"] 1 p_is_whole) {p_all_standings : DRn} (c_all_standings : Cl P w K mg base "all_standings" ["rooms", "x", "y"] 1 p_all_standings) {f : Addr} {cdv : Value} {A : Around} {outer : List PySem.Env} {s : Shared} {H : Hp} {E : XK} (hr : Room 1 (bodyX P w K mg base N_is_standing "is_standing" s_is_standing f cdv A outer s H E).A) :
  PSs (bodyX P w K mg base N_is_standing "is_standing" s_is_standing f cdv A outer s H E) (defBody s_is_standing) (tDS K (d_is_standing p_is_whole p_all_standings)) :=
 have nd := sc_is_standing.nd
 (ds_cons (ds_if (PW.pt (dw_or (dt_not (dt_val (de_isi (T := "tuple") rfl G.isinstance (dv 3) (pe_bltn (v := .ty "tuple") rfl G.tuple_ bt_tuple rfl)))) (dw_or (dt_cmp (op_neD hr.units) l_ne (de_len rfl G.len (da_cons (dv 3) da_nil)) de_int (nomark _)) (dw_or (dt_not (dt_val (de_isi (T := "str") rfl G.isinstance (de_ix (dv 3) de_int) (pe_bltn (v := .ty "str") rfl G.str_ bt_str rfl)))) (dw_or1 (dt_not (dt_val (de_call c_is_whole hr (by decide) rfl (da_cons (de_ix (dv 3) de_int) da_nil))))))))) (ds_one (ds_ret de_bl)) ds_nil)
 (ds_one (ds_ret (de_cmp (op_inS (hu65 hr)) l_in (dv 3) (de_call c_all_standings hr (by decide) rfl (da_cons (dv 0) (da_cons (dv 1) (da_cons (dv 2) da_nil)))) rfl))))
abbrev s_turned : Stmt := top 37
abbrev N_turned : List Str := ["standing", "word", "room"]
theorem sc_turned : FnScope N_turned ["standing"] (defScope s_turned) := ⟨rfl, rfl, rfl, by decide +kernel, rfl, by decide +kernel, by decide +kernel⟩
def d_turned : DTS :=
 (dSeq (dAsg (dVar 0) (gT 2 (gsC (gN 1) (gsC (gN 2) gs0))))
 (dRet (dTup (dCons (dTab [("apart", "apart"), ("in", "around"), ("around", "in")] (dVar 1)) (dCons (dVar 2) dNil)))))
theorem w_turned {P : Program} {w : World} {K : PySem.W.Frag} {mg : Str → Option Value} {base : Heap} (G : Glo K w mg) {f : Addr} {cdv : Value} {A : Around} {outer : List PySem.Env} {s : Shared} {H : Hp} {E : XK} (hr : Room 0 (bodyX P w K mg base N_turned "turned" s_turned f cdv A outer s H E).A) :
  PSs (bodyX P w K mg base N_turned "turned" s_turned f cdv A outer s H E) (defBody s_turned) (tDS K (d_turned)) :=
 have nd := sc_turned.nd
 (ds_cons (ds_asg (dv 0) (dg_tup rfl (dgs_cons (dg_name (i := 1) nd rfl (Or.inl rfl)) (dgs_cons (dg_name (i := 2) nd rfl (Or.inl rfl)) dgs_nil))))
 (ds_one (ds_ret (de_tup (da_cons (G.turn rfl (dv 1)) (da_cons (dv 2) da_nil))))))
abbrev s_standing_in : Stmt := top 38
abbrev N_standing_in : List Str := ["forest", "x", "y", "room"]
theorem sc_standing_in : FnScope N_standing_in ["forest", "x", "y"] (defScope s_standing_in) := ⟨rfl, rfl, rfl, by decide +kernel, rfl, by decide +kernel, by decide +kernel⟩
def d_standing_in (p_room_way : DRn) : DTS :=
 (dSeq (dSet 3 (dCB p_room_way (dCons (dVar 0) (dCons (dVar 1) (dCons (dVar 2) dNil)))))
 (dSeq (dIfS (dTst (dOp dNotN (dVar 3) (dC .none))) (dRet (dTup (dCons (dC (.str "in")) (dCons (dVar 3) dNil)))) dNext)
 (dSeq (dSet 3 (dCB p_room_way (dCons (dVar 0) (dCons (dVar 2) (dCons (dVar 1) dNil)))))
 (dRet (dIf (dTst (dOp dIsN (dVar 3) (dC .none))) (dC (.tuple [.str "apart", .int 0])) (dTup (dCons (dC (.str "around")) (dCons (dVar 3) dNil))))))))
theorem w_standing_in {P : Program} {w : World} {K : PySem.W.Frag} {mg : Str → Option Value} {base : Heap} (G : Glo K w mg) {p_room_way : DRn} (c_room_way : Cl P w K mg base "room_way" ["forest", "x", "y"] 1 p_room_way) {f : Addr} {cdv : Value} {A : Around} {outer : List PySem.Env} {s : Shared} {H : Hp} {E : XK} (hr : Room 1 (bodyX P w K mg base N_standing_in "standing_in" s_standing_in f cdv A outer s H E).A) :
  PSs (bodyX P w K mg base N_standing_in "standing_in" s_standing_in f cdv A outer s H E) (defBody s_standing_in) (tDS K (d_standing_in p_room_way)) :=
 have nd := sc_standing_in.nd
 (ds_cons (ds_set (i := 3) nd rfl (Or.inl rfl) (de_call c_room_way hr (by decide) rfl (da_cons (dv 0) (da_cons (dv 1) (da_cons (dv 2) da_nil)))))
 (ds_cons (ds_if (dt_cmp op_notN l_notN (dv 3) de_non (nomark _)) (ds_one (ds_ret (de_tup (da_cons de_str (da_cons (dv 3) da_nil))))) ds_nil)
 (ds_cons (ds_set (i := 3) nd rfl (Or.inl rfl) (de_call c_room_way hr (by decide) rfl (da_cons (dv 0) (da_cons (dv 2) (da_cons (dv 1) da_nil)))))
 (ds_one (ds_ret (de_if (dt_cmp op_isN l_isN (dv 3) de_non (nomark _)) (G.c_APART rfl) (de_tup (da_cons de_str (da_cons (dv 3) da_nil)))))))))
abbrev s_is_lets : Stmt := top 40
abbrev N_is_lets : List Str := ["rooms", "x", "y", "lets", "order", "before", "standing", "place"]
theorem sc_is_lets : FnScope N_is_lets ["rooms", "x", "y", "lets"] (defScope s_is_lets) := ⟨rfl, rfl, rfl, by decide +kernel, rfl, by decide +kernel, by decide +kernel⟩
def d_is_lets (p_all_standings : DRn) (p_is_standing : DRn) : DTS :=
 (dSeq (dIfS (dNot (dTst (dIsi "tuple" (dVar 3)))) (dRet (dC (.bool false))) dNext)
 (dSeq (dSet 4 (dCB p_all_standings (dCons (dVar 0) (dCons (dVar 1) (dCons (dVar 2) dNil)))))
 (dSeq (dSet 5 (dNeg (dC (.int 1))))
 (dSeq (dFor (iT (dVar 3)) (gN 6) (dSeq (dIfS (dNot (dTst (dCB p_is_standing (dCons (dVar 0) (dCons (dVar 1) (dCons (dVar 2) (dCons (dVar 6) dNil))))))) (dRet (dC (.bool false))) dNext)
 (dSeq (dSet 7 (dIndexZ (dVar 4) (dVar 6)))
 (dSeq (dIfS (dTst (dOp oLe (dVar 7) (dVar 5))) (dRet (dC (.bool false))) dNext)
 (dSet 5 (dVar 7))))))
 (dRet (dC (.bool true)))))))
theorem w_is_lets {P : Program} {w : World} {K : PySem.W.Frag} {mg : Str → Option Value} {base : Heap} (G : Glo K w mg) {p_all_standings : DRn} (c_all_standings : Cl P w K mg base "all_standings" ["rooms", "x", "y"] 1 p_all_standings) {p_is_standing : DRn} (c_is_standing : Cl P w K mg base "is_standing" ["rooms", "x", "y", "thing"] 2 p_is_standing) {f : Addr} {cdv : Value} {A : Around} {outer : List PySem.Env} {s : Shared} {H : Hp} {E : XK} (hr : Room 2 (bodyX P w K mg base N_is_lets "is_lets" s_is_lets f cdv A outer s H E).A) :
  PSs (bodyX P w K mg base N_is_lets "is_lets" s_is_lets f cdv A outer s H E) (defBody s_is_lets) (tDS K (d_is_lets p_all_standings p_is_standing)) :=
 have nd := sc_is_lets.nd
 (ds_cons (ds_if (dt_not (dt_val (de_isi (T := "tuple") rfl G.isinstance (dv 3) (pe_bltn (v := .ty "tuple") rfl G.tuple_ bt_tuple rfl)))) (ds_one (ds_ret de_bl)) ds_nil)
 (ds_cons (ds_set (i := 4) nd rfl (Or.inl rfl) (de_call c_all_standings hr (by decide) rfl (da_cons (dv 0) (da_cons (dv 1) (da_cons (dv 2) da_nil)))))
 (ds_cons (ds_set (i := 5) nd rfl (Or.inl rfl) (de_neg de_int))
 (ds_cons (ds_for PassesOwn.never rfl (di_tup (dv 3)) (dg_name (i := 6) nd rfl (Or.inl rfl)) (ds_cons (ds_if (dt_not (dt_val (de_call c_is_standing hr (by decide) rfl (da_cons (dv 0) (da_cons (dv 1) (da_cons (dv 2) (da_cons (dv 6) da_nil))))))) (ds_one (ds_ret de_bl)) ds_nil)
 (ds_cons (ds_set (i := 7) nd rfl (Or.inl rfl) (de_indexZ (hu65 hr) (dv 4) (dv 6)))
 (ds_cons (ds_if (dt_cmp op_le l_IB (dv 7) (dv 5) (nomark _)) (ds_one (ds_ret de_bl)) ds_nil)
 (ds_one (ds_set (i := 5) nd rfl (Or.inl rfl) (dv 7)))))))
 (ds_one (ds_ret de_bl))))))
abbrev s_says_right : Stmt := top 41
abbrev N_says_right : List Str := ["rooms", "saying", "x", "y", "lets"]
theorem sc_says_right : FnScope N_says_right ["rooms", "saying"] (defScope s_says_right) := ⟨rfl, rfl, rfl, by decide +kernel, rfl, by decide +kernel, by decide +kernel⟩
def d_says_right (p_is_thing : DRn) (p_is_lets : DRn) : DTS :=
 (dSeq (dIfS (dOr (dNot (dTst (dIsi "tuple" (dVar 1)))) (dTst (dOp dNe (dCB dLen (dCons (dVar 1) dNil)) (dC (.int 3))))) (dRet (dC (.bool false))) dNext)
 (dSeq (dAsg (dVar 1) (gT 3 (gsC (gN 2) (gsC (gN 3) (gsC (gN 4) gs0)))))
 (dSeq (dIfS (dOr (dNot (dTst (dCB p_is_thing (dCons (dVar 0) (dCons (dVar 2) dNil))))) (dOr (dNot (dTst (dCB p_is_thing (dCons (dVar 0) (dCons (dVar 3) dNil))))) (dTst (dOp dEq (dVar 2) (dVar 3))))) (dRet (dC (.bool false))) dNext)
 (dRet (dCB p_is_lets (dCons (dVar 0) (dCons (dVar 2) (dCons (dVar 3) (dCons (dVar 4) dNil)))))))))
theorem w_says_right {P : Program} {w : World} {K : PySem.W.Frag} {mg : Str → Option Value} {base : Heap} (G : Glo K w mg) {p_is_thing : DRn} (c_is_thing : Cl P w K mg base "is_thing" ["rooms", "x"] 2 p_is_thing) {p_is_lets : DRn} (c_is_lets : Cl P w K mg base "is_lets" ["rooms", "x", "y", "lets"] 3 p_is_lets) {f : Addr} {cdv : Value} {A : Around} {outer : List PySem.Env} {s : Shared} {H : Hp} {E : XK} (hr : Room 3 (bodyX P w K mg base N_says_right "says_right" s_says_right f cdv A outer s H E).A) :
  PSs (bodyX P w K mg base N_says_right "says_right" s_says_right f cdv A outer s H E) (defBody s_says_right) (tDS K (d_says_right p_is_thing p_is_lets)) :=
 have nd := sc_says_right.nd
 (ds_cons (ds_if (PW.pt (dw_or (dt_not (dt_val (de_isi (T := "tuple") rfl G.isinstance (dv 1) (pe_bltn (v := .ty "tuple") rfl G.tuple_ bt_tuple rfl)))) (dw_or1 (dt_cmp (op_neD hr.units) l_ne (de_len rfl G.len (da_cons (dv 1) da_nil)) de_int (nomark _))))) (ds_one (ds_ret de_bl)) ds_nil)
 (ds_cons (ds_asg (dv 1) (dg_tup rfl (dgs_cons (dg_name (i := 2) nd rfl (Or.inl rfl)) (dgs_cons (dg_name (i := 3) nd rfl (Or.inl rfl)) (dgs_cons (dg_name (i := 4) nd rfl (Or.inl rfl)) dgs_nil)))))
 (ds_cons (ds_if (PW.pt (dw_or (dt_not (dt_val (de_call c_is_thing hr (by decide) rfl (da_cons (dv 0) (da_cons (dv 2) da_nil))))) (dw_or (dt_not (dt_val (de_call c_is_thing hr (by decide) rfl (da_cons (dv 0) (da_cons (dv 3) da_nil))))) (dw_or1 (dt_cmp (op_eqD hr.units) l_eq (dv 2) (dv 3) (nomark _)))))) (ds_one (ds_ret de_bl)) ds_nil)
 (ds_one (ds_ret (de_call c_is_lets hr (by decide) rfl (da_cons (dv 0) (da_cons (dv 2) (da_cons (dv 3) (da_cons (dv 4) da_nil))))))))))
abbrev s_turned_lets : Stmt := top 42
abbrev N_turned_lets : List Str := ["lets", "apart", "inside", "outside", "standing"]
theorem sc_turned_lets : FnScope N_turned_lets ["lets"] (defScope s_turned_lets) := ⟨rfl, rfl, rfl, by decide +kernel, rfl, by decide +kernel, by decide +kernel⟩
def d_turned_lets (p_turned : DRn) : DTS :=
 (dSeq (dSet 1 (dPub (dLc (iT (dVar 0)) (gN 4) (dTst (dOp dEq (dOp dIx (dVar 4) (dC (.int 0))) (dC (.str "apart")))) (dVar 4) [4])))
 (dSeq (dSet 2 (dPub (dLc (iT (dVar 0)) (gN 4) (dTst (dOp dEq (dOp dIx (dVar 4) (dC (.int 0))) (dC (.str "around")))) (dCB p_turned (dCons (dVar 4) dNil)) [4])))
 (dSeq (dSet 3 (dPub (dLc (iT (dVar 0)) (gN 4) (dTst (dOp dEq (dOp dIx (dVar 4) (dC (.int 0))) (dC (.str "in")))) (dCB p_turned (dCons (dVar 4) dNil)) [4])))
 (dRet (dCB dTupL (dCons (dOp dCatL (dOp dCatL (dVar 1) (dVar 2)) (dVar 3)) dNil))))))
theorem w_turned_lets {P : Program} {w : World} {K : PySem.W.Frag} {mg : Str → Option Value} {base : Heap} (G : Glo K w mg) {p_turned : DRn} (c_turned : Cl P w K mg base "turned" ["standing"] 1 p_turned) {f : Addr} {cdv : Value} {A : Around} {outer : List PySem.Env} {s : Shared} {H : Hp} {E : XK} (hr : Room 1 (bodyX P w K mg base N_turned_lets "turned_lets" s_turned_lets f cdv A outer s H E).A) :
  PSs (bodyX P w K mg base N_turned_lets "turned_lets" s_turned_lets f cdv A outer s H E) (defBody s_turned_lets) (tDS K (d_turned_lets p_turned)) :=
 have nd := sc_turned_lets.nd
 (ds_cons (ds_setLc (i := 1) (own := [("standing", 4)]) rfl nd rfl rfl (sw_true rfl rfl rfl (by decide +kernel)) (di_tup (dv 0)) (blkOk_by (N := N_turned_lets) (sc := (defScope s_turned_lets)) (by decide +kernel)) (fun _ _ _ _ _ => (dg_name (i := 4) nd rfl (Or.inl rfl))) (fun _ _ _ _ _ => (dts_one (dt_cmp (op_eqD hr.units) l_eq (de_ix (dv 4) de_int) de_str (nomark _)))) (fun _ _ _ _ _ => (dv 4)))
 (ds_cons (ds_setLc (i := 2) (own := [("standing", 4)]) rfl nd rfl rfl (sw_true rfl rfl rfl (by decide +kernel)) (di_tup (dv 0)) (blkOk_by (N := N_turned_lets) (sc := (defScope s_turned_lets)) (by decide +kernel)) (fun _ _ _ _ _ => (dg_name (i := 4) nd rfl (Or.inl rfl))) (fun _ _ _ _ _ => (dts_one (dt_cmp (op_eqD hr.units) l_eq (de_ix (dv 4) de_int) de_str (nomark _)))) (fun _ _ _ _ _ => (de_call c_turned hr (by decide) rfl (da_cons (dv 4) da_nil))))
 (ds_cons (ds_setLc (i := 3) (own := [("standing", 4)]) rfl nd rfl rfl (sw_true rfl rfl rfl (by decide +kernel)) (di_tup (dv 0)) (blkOk_by (N := N_turned_lets) (sc := (defScope s_turned_lets)) (by decide +kernel)) (fun _ _ _ _ _ => (dg_name (i := 4) nd rfl (Or.inl rfl))) (fun _ _ _ _ _ => (dts_one (dt_cmp (op_eqD hr.units) l_eq (de_ix (dv 4) de_int) de_str (nomark _)))) (fun _ _ _ _ _ => (de_call c_turned hr (by decide) rfl (da_cons (dv 4) da_nil))))
 (ds_one (ds_ret (de_tupL rfl G.tuple_ (da_cons (de_op op_cat l_catL (de_op op_cat l_catL (dv 1) (dv 2)) (dv 3)) da_nil)))))))
abbrev s_is_pair : Stmt := top 45
abbrev N_is_pair : List Str := ["thing"]
theorem sc_is_pair : FnScope N_is_pair ["thing"] (defScope s_is_pair) := ⟨rfl, rfl, rfl, by decide +kernel, rfl, by decide +kernel, by decide +kernel⟩
def d_is_pair : DTS :=
 (dRet (dAndV (dIsi "tuple" (dVar 0)) (dOp dEq (dCB dLen (dCons (dVar 0) dNil)) (dC (.int 2)))))
theorem w_is_pair {P : Program} {w : World} {K : PySem.W.Frag} {mg : Str → Option Value} {base : Heap} (G : Glo K w mg) {f : Addr} {cdv : Value} {A : Around} {outer : List PySem.Env} {s : Shared} {H : Hp} {E : XK} (hr : Room 0 (bodyX P w K mg base N_is_pair "is_pair" s_is_pair f cdv A outer s H E).A) :
  PSs (bodyX P w K mg base N_is_pair "is_pair" s_is_pair f cdv A outer s H E) (defBody s_is_pair) (tDS K (d_is_pair)) :=
 have nd := sc_is_pair.nd
 (ds_one (ds_ret (de_and (de_isi (T := "tuple") rfl G.isinstance (dv 0) (pe_bltn (v := .ty "tuple") rfl G.tuple_ bt_tuple rfl)) (de_one (de_cmp (op_eqD hr.units) l_eq (de_len rfl G.len (da_cons (dv 0) da_nil)) de_int (nomark _))))))
abbrev s_first_wrong : Stmt := top 46
abbrev N_first_wrong : List Str := ["rooms", "sayings", "index", "saying"]
theorem sc_first_wrong : FnScope N_first_wrong ["rooms", "sayings"] (defScope s_first_wrong) := ⟨rfl, rfl, rfl, by decide +kernel, rfl, by decide +kernel, by decide +kernel⟩
def d_first_wrong (p_says_right : DRn) : DTS :=
 (dSeq (dFor (iEn (dCons (dVar 1) dNil)) (gT 2 (gsC (gN 2) (gsC (gN 3) gs0))) (dIfS (dNot (dTst (dCB p_says_right (dCons (dVar 0) (dCons (dVar 3) dNil))))) (dRet (dVar 2)) dNext))
 (dRet (dC .none)))
theorem w_first_wrong {P : Program} {w : World} {K : PySem.W.Frag} {mg : Str → Option Value} {base : Heap} (G : Glo K w mg) {p_says_right : DRn} (c_says_right : Cl P w K mg base "says_right" ["rooms", "saying"] 4 p_says_right) {f : Addr} {cdv : Value} {A : Around} {outer : List PySem.Env} {s : Shared} {H : Hp} {E : XK} (hr : Room 4 (bodyX P w K mg base N_first_wrong "first_wrong" s_first_wrong f cdv A outer s H E).A) :
  PSs (bodyX P w K mg base N_first_wrong "first_wrong" s_first_wrong f cdv A outer s H E) (defBody s_first_wrong) (tDS K (d_first_wrong p_says_right)) :=
 have nd := sc_first_wrong.nd
 (ds_cons (ds_for PassesOwn.never rfl (di_enum rfl G.enumerate (da_cons (dv 1) da_nil)) (dg_tup rfl (dgs_cons (dg_name (i := 2) nd rfl (Or.inl rfl)) (dgs_cons (dg_name (i := 3) nd rfl (Or.inl rfl)) dgs_nil))) (ds_one (ds_if (dt_not (dt_val (de_call c_says_right hr (by decide) rfl (da_cons (dv 0) (da_cons (dv 3) da_nil))))) (ds_one (ds_ret (dv 2))) ds_nil)))
 (ds_one (ds_ret de_non)))
abbrev s_made_book : Stmt := top 47
abbrev N_made_book : List Str := ["thing", "rooms", "sayings", "index"]
theorem sc_made_book : FnScope N_made_book ["thing"] (defScope s_made_book) := ⟨rfl, rfl, rfl, by decide +kernel, rfl, by decide +kernel, by decide +kernel⟩
def d_made_book (p_is_pair : DRn) (p_made_rooms : DRn) (p_first_wrong : DRn) : DTS :=
 (dSeq (dIfS (dNot (dTst (dCB p_is_pair (dCons (dVar 0) dNil)))) dNever dNext)
 (dSeq (dSet 1 (dCB p_made_rooms (dCons (dOp dIx (dVar 0) (dC (.int 0))) dNil)))
 (dSeq (dSet 2 (dOp dIx (dVar 0) (dC (.int 1))))
 (dSeq (dIfS (dNot (dTst (dIsi "tuple" (dVar 2)))) dNever dNext)
 (dSeq (dIfS (dTst (dOp oGt (dCB dLen (dCons (dVar 2) dNil)) (dC (.int 400)))) dNever dNext)
 (dSeq (dSet 3 (dCB p_first_wrong (dCons (dVar 1) (dCons (dVar 2) dNil))))
 (dSeq (dIfS (dTst (dOp dNotN (dVar 3) (dC .none))) dNever dNext)
 (dRet (dTup (dCons (dVar 1) (dCons (dVar 2) dNil)))))))))))
theorem w_made_book {P : Program} {w : World} {K : PySem.W.Frag} {mg : Str → Option Value} {base : Heap} (G : Glo K w mg) {p_is_pair : DRn} (c_is_pair : Cl P w K mg base "is_pair" ["thing"] 1 p_is_pair) {p_made_rooms : DRn} (c_made_rooms : Cl P w K mg base "made_rooms" ["thing"] 2 p_made_rooms) {p_first_wrong : DRn} (c_first_wrong : Cl P w K mg base "first_wrong" ["rooms", "sayings"] 5 p_first_wrong) {f : Addr} {cdv : Value} {A : Around} {outer : List PySem.Env} {s : Shared} {H : Hp} {E : XK} (hr : Room 5 (bodyX P w K mg base N_made_book "made_book" s_made_book f cdv A outer s H E).A) :
  PSs (bodyX P w K mg base N_made_book "made_book" s_made_book f cdv A outer s H E) (defBody s_made_book) (tDS K (d_made_book p_is_pair p_made_rooms p_first_wrong)) :=
 have nd := sc_made_book.nd
 (ds_cons (ds_if (dt_not (dt_val (de_call c_is_pair hr (by decide) rfl (da_cons (dv 0) da_nil)))) (ds_one ds_never) ds_nil)
 (ds_cons (ds_set (i := 1) nd rfl (Or.inl rfl) (de_call c_made_rooms hr (by decide) rfl (da_cons (de_ix (dv 0) de_int) da_nil)))
 (ds_cons (ds_set (i := 2) nd rfl (Or.inl rfl) (de_ix (dv 0) de_int))
 (ds_cons (ds_if (dt_not (dt_val (de_isi (T := "tuple") rfl G.isinstance (dv 2) (pe_bltn (v := .ty "tuple") rfl G.tuple_ bt_tuple rfl)))) (ds_one ds_never) ds_nil)
 (ds_cons (ds_if (dt_cmp op_gt l_IB (de_len rfl G.len (da_cons (dv 2) da_nil)) (G.c_MOST_SAYINGS rfl) (nomark _)) (ds_one ds_never) ds_nil)
 (ds_cons (ds_set (i := 3) nd rfl (Or.inl rfl) (de_call c_first_wrong hr (by decide) rfl (da_cons (dv 1) (da_cons (dv 2) da_nil))))
 (ds_cons (ds_if (dt_cmp op_notN l_notN (dv 3) de_non (nomark _)) (ds_one ds_never) ds_nil)
 (ds_one (ds_ret (de_tup (da_cons (dv 1) (da_cons (dv 2) da_nil))))))))))))
abbrev s_is_book : Stmt := top 48
abbrev N_is_book : List Str := ["thing"]
theorem sc_is_book : FnScope N_is_book ["thing"] (defScope s_is_book) := ⟨rfl, rfl, rfl, by decide +kernel, rfl, by decide +kernel, by decide +kernel⟩
def d_is_book (p_is_pair : DRn) (p_is_rooms : DRn) (p_first_wrong : DRn) : DTS :=
 (dSeq (dIfS (dOr (dNot (dTst (dCB p_is_pair (dCons (dVar 0) dNil)))) (dOr (dNot (dTst (dCB p_is_rooms (dCons (dOp dIx (dVar 0) (dC (.int 0))) dNil)))) (dNot (dTst (dIsi "tuple" (dOp dIx (dVar 0) (dC (.int 1)))))))) (dRet (dC (.bool false))) dNext)
 (dRet (dAndV (dOp oLe (dCB dLen (dCons (dOp dIx (dVar 0) (dC (.int 1))) dNil)) (dC (.int 400))) (dOp dIsN (dCB p_first_wrong (dCons (dOp dIx (dVar 0) (dC (.int 0))) (dCons (dOp dIx (dVar 0) (dC (.int 1))) dNil))) (dC .none)))))
theorem w_is_book {P : Program} {w : World} {K : PySem.W.Frag} {mg : Str → Option Value} {base : Heap} (G : Glo K w mg) {p_is_pair : DRn} (c_is_pair : Cl P w K mg base "is_pair" ["thing"] 1 p_is_pair) {p_is_rooms : DRn} (c_is_rooms : Cl P w K mg base "is_rooms" ["thing"] 2 p_is_rooms) {p_first_wrong : DRn} (c_first_wrong : Cl P w K mg base "first_wrong" ["rooms", "sayings"] 5 p_first_wrong) {f : Addr} {cdv : Value} {A : Around} {outer : List PySem.Env} {s : Shared} {H : Hp} {E : XK} (hr : Room 5 (bodyX P w K mg base N_is_book "is_book" s_is_book f cdv A outer s H E).A) :
  PSs (bodyX P w K mg base N_is_book "is_book" s_is_book f cdv A outer s H E) (defBody s_is_book) (tDS K (d_is_book p_is_pair p_is_rooms p_first_wrong)) :=
 have nd := sc_is_book.nd
 (ds_cons (ds_if (PW.pt (dw_or (dt_not (dt_val (de_call c_is_pair hr (by decide) rfl (da_cons (dv 0) da_nil)))) (dw_or (dt_not (dt_val (de_call c_is_rooms hr (by decide) rfl (da_cons (de_ix (dv 0) de_int) da_nil)))) (dw_or1 (dt_not (dt_val (de_isi (T := "tuple") rfl G.isinstance (de_ix (dv 0) de_int) (pe_bltn (v := .ty "tuple") rfl G.tuple_ bt_tuple rfl)))))))) (ds_one (ds_ret de_bl)) ds_nil)
 (ds_one (ds_ret (de_and (de_cmp op_le l_IB (de_len rfl G.len (da_cons (de_ix (dv 0) de_int) da_nil)) (G.c_MOST_SAYINGS rfl) (nomark _)) (de_one (de_cmp op_isN l_isN (de_call c_first_wrong hr (by decide) rfl (da_cons (de_ix (dv 0) de_int) (da_cons (de_ix (dv 0) de_int) da_nil))) de_non (nomark _)))))))
abbrev s_common_lets : Stmt := top 49
abbrev N_common_lets : List Str := ["one", "other", "standing"]
theorem sc_common_lets : FnScope N_common_lets ["one", "other"] (defScope s_common_lets) := ⟨rfl, rfl, rfl, by decide +kernel, rfl, by decide +kernel, by decide +kernel⟩
def d_common_lets : DTS :=
 (dRet (dCB dTupL (dCons (dPub (dLc (iT (dVar 0)) (gN 2) (dTst (dOp dIn (dVar 2) (dVar 1))) (dVar 2) [2])) dNil)))
theorem w_common_lets {P : Program} {w : World} {K : PySem.W.Frag} {mg : Str → Option Value} {base : Heap} (G : Glo K w mg) {f : Addr} {cdv : Value} {A : Around} {outer : List PySem.Env} {s : Shared} {H : Hp} {E : XK} (hr : Room 0 (bodyX P w K mg base N_common_lets "common_lets" s_common_lets f cdv A outer s H E).A) :
  PSs (bodyX P w K mg base N_common_lets "common_lets" s_common_lets f cdv A outer s H E) (defBody s_common_lets) (tDS K (d_common_lets)) :=
 have nd := sc_common_lets.nd
 (ds_one (ds_ret (de_tupL rfl G.tuple_ (da_cons (de_lc (own := [("standing", 2)]) rfl nd (di_tup (dv 0)) (blkOk_by (N := N_common_lets) (sc := (defScope s_common_lets)) (by decide +kernel)) (fun _ _ _ _ _ => (dg_name (i := 2) nd rfl (Or.inl rfl))) (fun _ _ _ _ _ => (dts_one (dt_cmp (op_inS (hu65 hr)) l_in (dv 2) (dv 1) rfl))) (fun _ _ _ _ _ => (dv 2))) da_nil))))
abbrev s_all_lets : Stmt := top 50
abbrev N_all_lets : List Str := ["book", "rooms", "sayings", "many", "x", "y", "lets", "said"]
theorem sc_all_lets : FnScope N_all_lets ["book"] (defScope s_all_lets) := ⟨rfl, rfl, rfl, by decide +kernel, rfl, by decide +kernel, by decide +kernel⟩
def d_all_lets (p_all_standings : DRn) (p_common_lets : DRn) (p_turned_lets : DRn) : DTS :=
 (dSeq (dAsg (dVar 0) (gT 2 (gsC (gN 1) (gsC (gN 2) gs0))))
 (dSeq (dSet 3 (dCB dLen (dCons (dVar 1) dNil)))
 (dSeq (dSetF 6 (dDT (iR1 (dCons (dVar 3) dNil)) 4 (iR1 (dCons (dVar 3) dNil)) 5 (dTst (dOp dNe (dVar 4) (dVar 5))) (dCons (dVar 4) (dCons (dVar 5) dNil)) (dCB p_all_standings (dCons (dVar 1) (dCons (dVar 4) (dCons (dVar 5) dNil))))))
 (dSeq (dFor (iT (dVar 2)) (gT 3 (gsC (gN 4) (gsC (gN 5) (gsC (gN 7) gs0)))) (dSeq (dPutTO 6 (dCB p_common_lets (dCons (dGetTO 6 (dCons (dVar 4) (dCons (dVar 5) dNil))) (dCons (dVar 7) dNil))) (dCons (dVar 4) (dCons (dVar 5) dNil)))
 (dPutTO 6 (dCB p_common_lets (dCons (dGetTO 6 (dCons (dVar 5) (dCons (dVar 4) dNil))) (dCons (dCB p_turned_lets (dCons (dVar 7) dNil)) dNil))) (dCons (dVar 5) (dCons (dVar 4) dNil)))))
 (dRet (dGive 6))))))
theorem w_all_lets {P : Program} {w : World} {K : PySem.W.Frag} {mg : Str → Option Value} {base : Heap} (G : Glo K w mg) {p_all_standings : DRn} (c_all_standings : Cl P w K mg base "all_standings" ["rooms", "x", "y"] 1 p_all_standings) {p_common_lets : DRn} (c_common_lets : Cl P w K mg base "common_lets" ["one", "other"] 1 p_common_lets) {p_turned_lets : DRn} (c_turned_lets : Cl P w K mg base "turned_lets" ["lets"] 2 p_turned_lets) {f : Addr} {cdv : Value} {A : Around} {outer : List PySem.Env} {s : Shared} {H : Hp} {E : XK} (hr : Room 2 (bodyX P w K mg base N_all_lets "all_lets" s_all_lets f cdv A outer s H E).A) :
  PSs (bodyX P w K mg base N_all_lets "all_lets" s_all_lets f cdv A outer s H E) (defBody s_all_lets) (tDS K (d_all_lets p_all_standings p_common_lets p_turned_lets)) :=
 have nd := sc_all_lets.nd
 (ds_cons (ds_asg (dv 0) (dg_tup rfl (dgs_cons (dg_name (i := 1) nd rfl (Or.inr rfl)) (dgs_cons (dg_name (i := 2) nd rfl (Or.inl rfl)) dgs_nil))))
 (ds_cons (ds_set (i := 3) nd rfl (Or.inr rfl) (de_len rfl G.len (da_cons (dv 1) da_nil)))
 (ds_cons (ds_setD2 (i := 6) (v := 4) (v1 := 5) hr.units0 rfl nd rfl rfl (swD_true rfl rfl rfl (by decide +kernel)) (di_range1 rfl G.range (da_cons (dv 3) da_nil)) (blkOk_by (N := N_all_lets) (sc := (defScope s_all_lets)) (by decide +kernel)) (fun _ _ _ _ _ => pg_name (i := 4) nd rfl (Or.inl rfl)) (fun _ _ _ _ _ => (di_range1 rfl G.range (da_cons (dv 3) da_nil))) (fun _ _ _ _ _ => pg_name (i := 5) nd rfl (Or.inl rfl)) (fun _ _ _ _ _ => (dt_cmp (op_neD hr.units) l_ne (dv 4) (dv 5) (nomark _))) (fun _ _ _ _ _ => (da_cons (dv 4) (da_cons (dv 5) da_nil))) (fun _ _ _ _ _ => (de_call c_all_standings hr (by decide) rfl (da_cons (dv 1) (da_cons (dv 4) (da_cons (dv 5) da_nil))))))
 (ds_cons (ds_for PassesOwn.never rfl (di_tup (dv 2)) (dg_tup rfl (dgs_cons (dg_name (i := 4) nd rfl (Or.inl rfl)) (dgs_cons (dg_name (i := 5) nd rfl (Or.inl rfl)) (dgs_cons (dg_name (i := 7) nd rfl (Or.inl rfl)) dgs_nil)))) (ds_cons (ds_putTO (hu1 hr) (L2.pv 6) (da_cons (dv 4) (da_cons (dv 5) da_nil)) (de_call c_common_lets hr (by decide) rfl (da_cons (de_getTO (hu1 hr) (L2.pv 6) (da_cons (dv 4) (da_cons (dv 5) da_nil))) (da_cons (dv 7) da_nil))))
 (ds_one (ds_putTO (hu1 hr) (L2.pv 6) (da_cons (dv 5) (da_cons (dv 4) da_nil)) (de_call c_common_lets hr (by decide) rfl (da_cons (de_getTO (hu1 hr) (L2.pv 6) (da_cons (dv 5) (da_cons (dv 4) da_nil))) (da_cons (de_call c_turned_lets hr (by decide) rfl (da_cons (dv 7) da_nil)) da_nil)))))))
 (ds_one (ds_ret (dgive 6)))))))
abbrev s_first_broken : Stmt := top 51
abbrev N_first_broken : List Str := ["book", "forest", "index", "x", "y", "lets"]
theorem sc_first_broken : FnScope N_first_broken ["book", "forest"] (defScope s_first_broken) := ⟨rfl, rfl, rfl, by decide +kernel, rfl, by decide +kernel, by decide +kernel⟩
def d_first_broken (p_standing_in : DRn) : DTS :=
 (dSeq (dFor (iEn (dCons (dOp dIx (dVar 0) (dC (.int 1))) dNil)) (gT 2 (gsC (gN 2) (gsC (gT 3 (gsC (gN 3) (gsC (gN 4) (gsC (gN 5) gs0)))) gs0))) (dIfS (dTst (dOp dNotIn (dCB p_standing_in (dCons (dVar 1) (dCons (dVar 3) (dCons (dVar 4) dNil)))) (dVar 5))) (dRet (dVar 2)) dNext))
 (dRet (dC .none)))
theorem w_first_broken {P : Program} {w : World} {K : PySem.W.Frag} {mg : Str → Option Value} {base : Heap} (G : Glo K w mg) {p_standing_in : DRn} (c_standing_in : Cl P w K mg base "standing_in" ["forest", "x", "y"] 2 p_standing_in) {f : Addr} {cdv : Value} {A : Around} {outer : List PySem.Env} {s : Shared} {H : Hp} {E : XK} (hr : Room 2 (bodyX P w K mg base N_first_broken "first_broken" s_first_broken f cdv A outer s H E).A) :
  PSs (bodyX P w K mg base N_first_broken "first_broken" s_first_broken f cdv A outer s H E) (defBody s_first_broken) (tDS K (d_first_broken p_standing_in)) :=
 have nd := sc_first_broken.nd
 (ds_cons (ds_for PassesOwn.never rfl (di_enum rfl G.enumerate (da_cons (de_ix (dv 0) de_int) da_nil)) (dg_tup rfl (dgs_cons (dg_name (i := 2) nd rfl (Or.inl rfl)) (dgs_cons (dg_tup rfl (dgs_cons (dg_name (i := 3) nd rfl (Or.inl rfl)) (dgs_cons (dg_name (i := 4) nd rfl (Or.inl rfl)) (dgs_cons (dg_name (i := 5) nd rfl (Or.inl rfl)) dgs_nil)))) dgs_nil))) (ds_one (ds_if (dt_cmp (op_notInS (hu65 hr)) l_notIn (de_call c_standing_in hr (by decide) rfl (da_cons (dv 1) (da_cons (dv 3) (da_cons (dv 4) da_nil)))) (dv 5) rfl) (ds_one (ds_ret (dv 2))) ds_nil)))
 (ds_one (ds_ret de_non)))
abbrev s_keeps : Stmt := top 52
abbrev N_keeps : List Str := ["book", "forest"]
theorem sc_keeps : FnScope N_keeps ["book", "forest"] (defScope s_keeps) := ⟨rfl, rfl, rfl, by decide +kernel, rfl, by decide +kernel, by decide +kernel⟩
def d_keeps (p_is_book : DRn) (p_is_forest : DRn) (p_first_broken : DRn) : DTS :=
 (dSeq (dIfS (dOr (dNot (dTst (dCB p_is_book (dCons (dVar 0) dNil)))) (dNot (dTst (dCB p_is_forest (dCons (dOp dIx (dVar 0) (dC (.int 0))) (dCons (dVar 1) dNil)))))) (dRet (dC (.bool false))) dNext)
 (dRet (dOp dIsN (dCB p_first_broken (dCons (dVar 0) (dCons (dVar 1) dNil))) (dC .none))))
theorem w_keeps {P : Program} {w : World} {K : PySem.W.Frag} {mg : Str → Option Value} {base : Heap} (G : Glo K w mg) {p_is_book : DRn} (c_is_book : Cl P w K mg base "is_book" ["thing"] 6 p_is_book) {p_is_forest : DRn} (c_is_forest : Cl P w K mg base "is_forest" ["rooms", "forest"] 4 p_is_forest) {p_first_broken : DRn} (c_first_broken : Cl P w K mg base "first_broken" ["book", "forest"] 3 p_first_broken) {f : Addr} {cdv : Value} {A : Around} {outer : List PySem.Env} {s : Shared} {H : Hp} {E : XK} (hr : Room 6 (bodyX P w K mg base N_keeps "keeps" s_keeps f cdv A outer s H E).A) :
  PSs (bodyX P w K mg base N_keeps "keeps" s_keeps f cdv A outer s H E) (defBody s_keeps) (tDS K (d_keeps p_is_book p_is_forest p_first_broken)) :=
 have nd := sc_keeps.nd
 (ds_cons (ds_if (PW.pt (dw_or (dt_not (dt_val (de_call c_is_book hr (by decide) rfl (da_cons (dv 0) da_nil)))) (dw_or1 (dt_not (dt_val (de_call c_is_forest hr (by decide) rfl (da_cons (de_ix (dv 0) de_int) (da_cons (dv 1) da_nil)))))))) (ds_one (ds_ret de_bl)) ds_nil)
 (ds_one (ds_ret (de_cmp op_isN l_isN (de_call c_first_broken hr (by decide) rfl (da_cons (dv 0) (da_cons (dv 1) da_nil))) de_non (nomark _)))))
abbrev s_near_of : Stmt := top 54
abbrev N_near_of : List Str := ["rooms", "lets", "many", "x", "y"]
theorem sc_near_of : FnScope N_near_of ["rooms", "lets"] (defScope s_near_of) := ⟨rfl, rfl, rfl, by decide +kernel, rfl, by decide +kernel, by decide +kernel⟩
def d_near_of : DTS :=
 (dSeq (dSet 2 (dCB dLen (dCons (dVar 0) dNil)))
 (dRet (dCB dTupL (dCons (dPub (dLc (iR1 (dCons (dVar 2) dNil)) (gN 3) dYes (dCB dTupL (dCons (dPub (dLc (iR1 (dCons (dVar 2) dNil)) (gN 4) (dAnd (dTst (dOp dNe (dVar 4) (dVar 3))) (dTst (dOp dNotIn (dC (.tuple [.str "apart", .int 0])) (dGetT (dVar 1) (dCons (dVar 3) (dCons (dVar 4) dNil)))))) (dVar 4) [4])) dNil)) [3])) dNil))))
theorem w_near_of {P : Program} {w : World} {K : PySem.W.Frag} {mg : Str → Option Value} {base : Heap} (G : Glo K w mg) {f : Addr} {cdv : Value} {A : Around} {outer : List PySem.Env} {s : Shared} {H : Hp} {E : XK} (hr : Room 0 (bodyX P w K mg base N_near_of "near_of" s_near_of f cdv A outer s H E).A) :
  PSs (bodyX P w K mg base N_near_of "near_of" s_near_of f cdv A outer s H E) (defBody s_near_of) (tDS K (d_near_of)) :=
 have nd := sc_near_of.nd
 (ds_cons (ds_set (i := 2) nd rfl (Or.inr rfl) (de_len rfl G.len (da_cons (dv 0) da_nil)))
 (ds_one (ds_ret (de_tupL rfl G.tuple_ (da_cons (de_lc (own := [("x", 3)]) rfl nd (di_range1 rfl G.range (da_cons (dv 2) da_nil)) (blkOk_by (N := N_near_of) (sc := (defScope s_near_of)) (by decide +kernel)) (fun _ _ _ _ _ => (dg_name (i := 3) nd rfl (Or.inr rfl))) (fun _ _ _ _ _ => dts_nil) (fun _ _ _ _ _ => (de_tupL rfl G.tuple_ (da_cons (de_lc (own := [("y", 4)]) rfl nd (di_range1 rfl G.range (da_cons (dv 2) da_nil)) (blkOk_by (N := N_near_of) (sc := (relS { kind := .function, names := [(".0", .local), ("x", .cell), ("tuple", .globalImplicit), ("range", .globalImplicit), ("lets", .free), ("many", .free)], isGenerator := false, isCoroutine := false, more := [] } (defScope s_near_of))) (by decide +kernel)) (fun _ _ _ _ _ => (dg_name (i := 4) nd rfl (Or.inl rfl))) (fun _ _ _ _ _ => (dts_one (PW.pt (dw_and (dt_cmp (op_neD hr.units) l_ne (dv 4) (dv 3) (nomark _)) (dw_and1 (dt_cmp (op_notInS (hu65 hr)) l_notIn (G.c_APART rfl) (de_getT (hu1 hr) (dv 1) (da_cons (dv 3) (da_cons (dv 4) da_nil))) rfl)))))) (fun _ _ _ _ _ => (dv 4))) da_nil)))) da_nil)))))
abbrev s_world_of : Stmt := top 55
abbrev N_world_of : List Str := ["book", "lets"]
theorem sc_world_of : FnScope N_world_of ["book"] (defScope s_world_of) := ⟨rfl, rfl, rfl, by decide +kernel, rfl, by decide +kernel, by decide +kernel⟩
def d_world_of (p_all_lets : DRn) (p_near_of : DRn) : DTS :=
 (dSeq (dSet 1 (dCB p_all_lets (dCons (dVar 0) dNil)))
 (dRet (dTup (dCons (dOp dIx (dVar 0) (dC (.int 0))) (dCons (dVar 1) (dCons (dCB p_near_of (dCons (dOp dIx (dVar 0) (dC (.int 0))) (dCons (dVar 1) dNil))) dNil))))))
theorem w_world_of {P : Program} {w : World} {K : PySem.W.Frag} {mg : Str → Option Value} {base : Heap} (G : Glo K w mg) {p_all_lets : DRn} (c_all_lets : Cl P w K mg base "all_lets" ["book"] 3 p_all_lets) {p_near_of : DRn} (c_near_of : Cl P w K mg base "near_of" ["rooms", "lets"] 1 p_near_of) {f : Addr} {cdv : Value} {A : Around} {outer : List PySem.Env} {s : Shared} {H : Hp} {E : XK} (hr : Room 3 (bodyX P w K mg base N_world_of "world_of" s_world_of f cdv A outer s H E).A) :
  PSs (bodyX P w K mg base N_world_of "world_of" s_world_of f cdv A outer s H E) (defBody s_world_of) (tDS K (d_world_of p_all_lets p_near_of)) :=
 have nd := sc_world_of.nd
 (ds_cons (ds_set (i := 1) nd rfl (Or.inl rfl) (de_call c_all_lets hr (by decide) rfl (da_cons (dv 0) da_nil)))
 (ds_one (ds_ret (de_tup (da_cons (de_ix (dv 0) de_int) (da_cons (dv 1) (da_cons (de_call c_near_of hr (by decide) rfl (da_cons (de_ix (dv 0) de_int) (da_cons (dv 1) da_nil))) da_nil)))))))
abbrev s_without : Stmt := top 56
abbrev N_without : List Str := ["lot", "t", "x"]
theorem sc_without : FnScope N_without ["lot", "t"] (defScope s_without) := ⟨rfl, rfl, rfl, by decide +kernel, rfl, by decide +kernel, by decide +kernel⟩
def d_without : DTS :=
 (dRet (dCB dTupL (dCons (dPub (dLc (iT (dVar 0)) (gN 2) (dTst (dOp dNe (dVar 2) (dVar 1))) (dVar 2) [2])) dNil)))
theorem w_without {P : Program} {w : World} {K : PySem.W.Frag} {mg : Str → Option Value} {base : Heap} (G : Glo K w mg) {f : Addr} {cdv : Value} {A : Around} {outer : List PySem.Env} {s : Shared} {H : Hp} {E : XK} (hr : Room 0 (bodyX P w K mg base N_without "without" s_without f cdv A outer s H E).A) :
  PSs (bodyX P w K mg base N_without "without" s_without f cdv A outer s H E) (defBody s_without) (tDS K (d_without)) :=
 have nd := sc_without.nd
 (ds_one (ds_ret (de_tupL rfl G.tuple_ (da_cons (de_lc (own := [("x", 2)]) rfl nd (di_tup (dv 0)) (blkOk_by (N := N_without) (sc := (defScope s_without)) (by decide +kernel)) (fun _ _ _ _ _ => (dg_name (i := 2) nd rfl (Or.inl rfl))) (fun _ _ _ _ _ => (dts_one (dt_cmp (op_neD hr.units) l_ne (dv 2) (dv 1) (nomark _)))) (fun _ _ _ _ _ => (dv 2))) da_nil))))
abbrev s_reached : Stmt := top 57
abbrev N_reached : List Str := ["near", "lot", "start", "x", "inside", "met", "waiting", "y"]
theorem sc_reached : FnScope N_reached ["near", "lot", "start"] (defScope s_reached) := ⟨rfl, rfl, rfl, by decide +kernel, rfl, by decide +kernel, by decide +kernel⟩
def d_reached : DTS :=
 (dSeq (dSetF 4 (dKc (iT (dVar 1)) 3))
 (dSeq (dSetF 5 (dNewK (dVar 2)))
 (dSeq (dSetF 6 (dLstF (dCons (dVar 2) dNil)))
 (dSeq (dWhile (dTruO 6) (dSeq (dSet 3 (dPop 6))
 (dFor (iT (dOp dIx (dVar 0) (dVar 3))) (gN 7) (dIfS (dAnd (dTst (dInK 4 (dVar 7))) (dTst (dNotInK 5 (dVar 7)))) (dSeq (dPutK 5 (dVar 7))
 (dDrop (dApp 6 (dVar 7)))) dNext))))
 (dRet (dCB dTupL (dCons (dPub (dLc (iT (dVar 1)) (gN 3) (dTst (dInK 5 (dVar 3))) (dVar 3) [3])) dNil)))))))
theorem w_reached {P : Program} {w : World} {K : PySem.W.Frag} {mg : Str → Option Value} {base : Heap} (G : Glo K w mg) {f : Addr} {cdv : Value} {A : Around} {outer : List PySem.Env} {s : Shared} {H : Hp} {E : XK} (hr : Room 0 (bodyX P w K mg base N_reached "reached" s_reached f cdv A outer s H E).A) :
  PSs (bodyX P w K mg base N_reached "reached" s_reached f cdv A outer s H E) (defBody s_reached) (tDS K (d_reached)) :=
 have nd := sc_reached.nd
 (ds_cons (ds_setDK (i := 4) (v := 3) rfl nd rfl rfl (swD_true rfl rfl rfl (by decide +kernel)) (di_tup (dv 1)) (blkOk_by (N := N_reached) (sc := (defScope s_reached)) (by decide +kernel)) (fun _ _ _ _ _ => pg_name (i := 3) nd rfl (Or.inl rfl)) (fun _ _ _ _ _ => L2.pv 3))
 (ds_cons (ds_setF (i := 5) nd rfl (Or.inr rfl) (df_newK (dv 2)))
 (ds_cons (ds_setF (i := 6) nd rfl (Or.inl rfl) (df_lst (da_cons (dv 2) da_nil)))
 (ds_cons (ds_while PassesOwn.never (dt_truO (L2.pv 6)) (ds_cons (ds_set (i := 3) nd rfl (Or.inl rfl) (de_pop (L2.pv 6)))
 (ds_one (ds_for PassesOwn.never rfl (di_tup (de_ix (dv 0) (dv 3))) (dg_name (i := 7) nd rfl (Or.inl rfl)) (ds_one (ds_if (PW.pt (dw_and (dt_inK (hu1 hr) (dv 7) (L2.pv 4)) (dw_and1 (dt_notInK (hu1 hr) (dv 7) (L2.pv 5))))) (ds_cons (ds_putK (hu1 hr) (L2.pv 5) (dv 7))
 (ds_one (ds_expr (de_app (L2.pv 6) (dv 7))))) ds_nil))))))
 (ds_one (ds_ret (de_tupL rfl G.tuple_ (da_cons (de_lc (own := [("x", 3)]) rfl nd (di_tup (dv 1)) (blkOk_by (N := N_reached) (sc := (defScope s_reached)) (by decide +kernel)) (fun _ _ _ _ _ => (dg_name (i := 3) nd rfl (Or.inl rfl))) (fun _ _ _ _ _ => (dts_one (dt_inK (hu1 hr) (dv 3) (L2.pv 5)))) (fun _ _ _ _ _ => (dv 3))) da_nil))))))))
abbrev s_parts_in : Stmt := top 58
abbrev N_parts_in : List Str := ["world", "lot", "told", "left", "part", "x"]
theorem sc_parts_in : FnScope N_parts_in ["world", "lot"] (defScope s_parts_in) := ⟨rfl, rfl, rfl, by decide +kernel, rfl, by decide +kernel, by decide +kernel⟩
def d_parts_in (p_reached : DRn) : DTS :=
 (dSeq (dSetF 2 (dLstF dNil))
 (dSeq (dSet 3 (dVar 1))
 (dSeq (dWhile (dTru (dVar 3)) (dSeq (dSet 4 (dCB p_reached (dCons (dOp dIx (dVar 0) (dC (.int 2))) (dCons (dVar 3) (dCons (dOp dIx (dVar 3) (dC (.int 0))) dNil)))))
 (dSeq (dDrop (dApp 2 (dVar 4)))
 (dSet 3 (dCB dTupL (dCons (dPub (dLc (iT (dVar 3)) (gN 5) (dTst (dOp dNotIn (dVar 5) (dVar 4))) (dVar 5) [5])) dNil))))))
 (dRet (dTupO 2)))))
theorem w_parts_in {P : Program} {w : World} {K : PySem.W.Frag} {mg : Str → Option Value} {base : Heap} (G : Glo K w mg) {p_reached : DRn} (c_reached : Cl P w K mg base "reached" ["near", "lot", "start"] 1 p_reached) {f : Addr} {cdv : Value} {A : Around} {outer : List PySem.Env} {s : Shared} {H : Hp} {E : XK} (hr : Room 1 (bodyX P w K mg base N_parts_in "parts_in" s_parts_in f cdv A outer s H E).A) :
  PSs (bodyX P w K mg base N_parts_in "parts_in" s_parts_in f cdv A outer s H E) (defBody s_parts_in) (tDS K (d_parts_in p_reached)) :=
 have nd := sc_parts_in.nd
 (ds_cons (ds_setF (i := 2) nd rfl (Or.inl rfl) (df_lst da_nil))
 (ds_cons (ds_set (i := 3) nd rfl (Or.inl rfl) (dv 1))
 (ds_cons (ds_while PassesOwn.never (dt_tru (dv 3)) (ds_cons (ds_set (i := 4) nd rfl (Or.inr rfl) (de_call c_reached hr (by decide) rfl (da_cons (de_ix (dv 0) de_int) (da_cons (dv 3) (da_cons (de_ix (dv 3) de_int) da_nil)))))
 (ds_cons (ds_expr (de_app (L2.pv 2) (dv 4)))
 (ds_one (ds_set (i := 3) nd rfl (Or.inl rfl) (de_tupL rfl G.tuple_ (da_cons (de_lc (own := [("x", 5)]) rfl nd (di_tup (dv 3)) (blkOk_by (N := N_parts_in) (sc := (defScope s_parts_in)) (by decide +kernel)) (fun _ _ _ _ _ => (dg_name (i := 5) nd rfl (Or.inl rfl))) (fun _ _ _ _ _ => (dts_one (dt_cmp (op_notInS (hu65 hr)) l_notIn (dv 5) (dv 4) rfl))) (fun _ _ _ _ _ => (dv 5))) da_nil)))))))
 (ds_one (ds_ret (de_tupO (L2.pv 2) rfl G.tuple_))))))
abbrev s_shut_out : Stmt := top 60
abbrev N_shut_out : List Str := ["world", "t", "room", "part", "c"]
theorem sc_shut_out : FnScope N_shut_out ["world", "t", "room", "part"] (defScope s_shut_out) := ⟨rfl, rfl, rfl, by decide +kernel, rfl, by decide +kernel, by decide +kernel⟩
def d_shut_out : DTS :=
 (dRet (dCB dTupL (dCons (dPub (dLc (iT (dVar 3)) (gN 4) (dTst (dOp dNotIn (dTup (dCons (dC (.str "around")) (dCons (dVar 2) dNil))) (dGetT (dOp dIx (dVar 0) (dC (.int 1))) (dCons (dVar 1) (dCons (dVar 4) dNil))))) (dVar 4) [4])) dNil)))
theorem w_shut_out {P : Program} {w : World} {K : PySem.W.Frag} {mg : Str → Option Value} {base : Heap} (G : Glo K w mg) {f : Addr} {cdv : Value} {A : Around} {outer : List PySem.Env} {s : Shared} {H : Hp} {E : XK} (hr : Room 0 (bodyX P w K mg base N_shut_out "shut_out" s_shut_out f cdv A outer s H E).A) :
  PSs (bodyX P w K mg base N_shut_out "shut_out" s_shut_out f cdv A outer s H E) (defBody s_shut_out) (tDS K (d_shut_out)) :=
 have nd := sc_shut_out.nd
 (ds_one (ds_ret (de_tupL rfl G.tuple_ (da_cons (de_lc (own := [("c", 4)]) rfl nd (di_tup (dv 3)) (blkOk_by (N := N_shut_out) (sc := (defScope s_shut_out)) (by decide +kernel)) (fun _ _ _ _ _ => (dg_name (i := 4) nd rfl (Or.inl rfl))) (fun _ _ _ _ _ => (dts_one (dt_cmp (op_notInS (hu65 hr)) l_notIn (de_tup (da_cons de_str (da_cons (dv 2) da_nil))) (de_getT (hu1 hr) (de_ix (dv 0) de_int) (da_cons (dv 1) (da_cons (dv 4) da_nil))) rfl))) (fun _ _ _ _ _ => (dv 4))) da_nil))))
abbrev s_over_in : Stmt := top 61
abbrev N_over_in : List Str := ["world", "t", "part", "room"]
theorem sc_over_in : FnScope N_over_in ["world", "t", "part"] (defScope s_over_in) := ⟨rfl, rfl, rfl, by decide +kernel, rfl, by decide +kernel, by decide +kernel⟩
def d_over_in (p_shut_out : DRn) : DTS :=
 (dRet (dCB dTupL (dCons (dPub (dLc (iR1 (dCons (dOp dIx (dOp dIx (dVar 0) (dC (.int 0))) (dVar 1)) dNil)) (gN 3) (dTst (dOp dEq (dCB p_shut_out (dCons (dVar 0) (dCons (dVar 1) (dCons (dVar 3) (dCons (dVar 2) dNil))))) (dTup dNil))) (dVar 3) [3])) dNil)))
theorem w_over_in {P : Program} {w : World} {K : PySem.W.Frag} {mg : Str → Option Value} {base : Heap} (G : Glo K w mg) {p_shut_out : DRn} (c_shut_out : Cl P w K mg base "shut_out" ["world", "t", "room", "part"] 1 p_shut_out) {f : Addr} {cdv : Value} {A : Around} {outer : List PySem.Env} {s : Shared} {H : Hp} {E : XK} (hr : Room 1 (bodyX P w K mg base N_over_in "over_in" s_over_in f cdv A outer s H E).A) :
  PSs (bodyX P w K mg base N_over_in "over_in" s_over_in f cdv A outer s H E) (defBody s_over_in) (tDS K (d_over_in p_shut_out)) :=
 have nd := sc_over_in.nd
 (ds_one (ds_ret (de_tupL rfl G.tuple_ (da_cons (de_lc (own := [("room", 3)]) rfl nd (di_range1 rfl G.range (da_cons (de_ix (de_ix (dv 0) de_int) (dv 1)) da_nil)) (blkOk_by (N := N_over_in) (sc := (defScope s_over_in)) (by decide +kernel)) (fun _ _ _ _ _ => (dg_name (i := 3) nd rfl (Or.inl rfl))) (fun _ _ _ _ _ => (dts_one (dt_cmp (op_eqD hr.units) l_eq (de_call c_shut_out hr (by decide) rfl (da_cons (dv 0) (da_cons (dv 1) (da_cons (dv 3) (da_cons (dv 2) da_nil))))) (de_tup da_nil) (nomark _)))) (fun _ _ _ _ _ => (dv 3))) da_nil))))
abbrev s_stuck_part : Stmt := top 62
abbrev N_stuck_part : List Str := ["world", "lot", "t", "part"]
theorem sc_stuck_part : FnScope N_stuck_part ["world", "lot", "t"] (defScope s_stuck_part) := ⟨rfl, rfl, rfl, by decide +kernel, rfl, by decide +kernel, by decide +kernel⟩
def d_stuck_part (p_parts_in : DRn) (p_without : DRn) (p_over_in : DRn) : DTS :=
 (dSeq (dFor (iT (dCB p_parts_in (dCons (dVar 0) (dCons (dCB p_without (dCons (dVar 1) (dCons (dVar 2) dNil))) dNil)))) (gN 3) (dIfS (dTst (dOp dEq (dCB p_over_in (dCons (dVar 0) (dCons (dVar 2) (dCons (dVar 3) dNil)))) (dTup dNil))) (dRet (dVar 3)) dNext))
 (dRet (dC .none)))
theorem w_stuck_part {P : Program} {w : World} {K : PySem.W.Frag} {mg : Str → Option Value} {base : Heap} (G : Glo K w mg) {p_parts_in : DRn} (c_parts_in : Cl P w K mg base "parts_in" ["world", "lot"] 2 p_parts_in) {p_without : DRn} (c_without : Cl P w K mg base "without" ["lot", "t"] 1 p_without) {p_over_in : DRn} (c_over_in : Cl P w K mg base "over_in" ["world", "t", "part"] 2 p_over_in) {f : Addr} {cdv : Value} {A : Around} {outer : List PySem.Env} {s : Shared} {H : Hp} {E : XK} (hr : Room 2 (bodyX P w K mg base N_stuck_part "stuck_part" s_stuck_part f cdv A outer s H E).A) :
  PSs (bodyX P w K mg base N_stuck_part "stuck_part" s_stuck_part f cdv A outer s H E) (defBody s_stuck_part) (tDS K (d_stuck_part p_parts_in p_without p_over_in)) :=
 have nd := sc_stuck_part.nd
 (ds_cons (ds_for PassesOwn.never rfl (di_tup (de_call c_parts_in hr (by decide) rfl (da_cons (dv 0) (da_cons (de_call c_without hr (by decide) rfl (da_cons (dv 1) (da_cons (dv 2) da_nil))) da_nil)))) (dg_name (i := 3) nd rfl (Or.inl rfl)) (ds_one (ds_if (dt_cmp (op_eqD hr.units) l_eq (de_call c_over_in hr (by decide) rfl (da_cons (dv 0) (da_cons (dv 2) (da_cons (dv 3) da_nil)))) (de_tup da_nil) (nomark _)) (ds_one (ds_ret (dv 3))) ds_nil)))
 (ds_one (ds_ret de_non)))
abbrev s_free_in : Stmt := top 63
abbrev N_free_in : List Str := ["world", "lot", "t"]
theorem sc_free_in : FnScope N_free_in ["world", "lot"] (defScope s_free_in) := ⟨rfl, rfl, rfl, by decide +kernel, rfl, by decide +kernel, by decide +kernel⟩
def d_free_in (p_stuck_part : DRn) : DTS :=
 (dRet (dCB dTupL (dCons (dPub (dLc (iT (dVar 1)) (gN 2) (dTst (dOp dIsN (dCB p_stuck_part (dCons (dVar 0) (dCons (dVar 1) (dCons (dVar 2) dNil)))) (dC .none))) (dVar 2) [2])) dNil)))
theorem w_free_in {P : Program} {w : World} {K : PySem.W.Frag} {mg : Str → Option Value} {base : Heap} (G : Glo K w mg) {p_stuck_part : DRn} (c_stuck_part : Cl P w K mg base "stuck_part" ["world", "lot", "t"] 3 p_stuck_part) {f : Addr} {cdv : Value} {A : Around} {outer : List PySem.Env} {s : Shared} {H : Hp} {E : XK} (hr : Room 3 (bodyX P w K mg base N_free_in "free_in" s_free_in f cdv A outer s H E).A) :
  PSs (bodyX P w K mg base N_free_in "free_in" s_free_in f cdv A outer s H E) (defBody s_free_in) (tDS K (d_free_in p_stuck_part)) :=
 have nd := sc_free_in.nd
 (ds_one (ds_ret (de_tupL rfl G.tuple_ (da_cons (de_lc (own := [("t", 2)]) rfl nd (di_tup (dv 1)) (blkOk_by (N := N_free_in) (sc := (defScope s_free_in)) (by decide +kernel)) (fun _ _ _ _ _ => (dg_name (i := 2) nd rfl (Or.inl rfl))) (fun _ _ _ _ _ => (dts_one (dt_cmp op_isN l_isN (de_call c_stuck_part hr (by decide) rfl (da_cons (dv 0) (da_cons (dv 1) (da_cons (dv 2) da_nil)))) de_non (nomark _)))) (fun _ _ _ _ _ => (dv 2))) da_nil))))
abbrev s_with_beneath : Stmt := top 65
abbrev N_with_beneath : List Str := ["forest", "x"]
theorem sc_with_beneath : FnScope N_with_beneath ["forest", "x"] (defScope s_with_beneath) := ⟨rfl, rfl, rfl, by decide +kernel, rfl, by decide +kernel, by decide +kernel⟩
def d_with_beneath (p_within : DRn) : DTS :=
 (dRet (dCB dTupL (dCons (dCB dSorted (dCons (dOp dCatT (dCB p_within (dCons (dVar 0) (dCons (dVar 1) dNil))) (dTup (dCons (dVar 1) dNil))) dNil)) dNil)))
theorem w_with_beneath {P : Program} {w : World} {K : PySem.W.Frag} {mg : Str → Option Value} {base : Heap} (G : Glo K w mg) {p_within : DRn} (c_within : Cl P w K mg base "within" ["forest", "x"] 2 p_within) {f : Addr} {cdv : Value} {A : Around} {outer : List PySem.Env} {s : Shared} {H : Hp} {E : XK} (hr : Room 2 (bodyX P w K mg base N_with_beneath "with_beneath" s_with_beneath f cdv A outer s H E).A) :
  PSs (bodyX P w K mg base N_with_beneath "with_beneath" s_with_beneath f cdv A outer s H E) (defBody s_with_beneath) (tDS K (d_with_beneath p_within)) :=
 have nd := sc_with_beneath.nd
 (ds_one (ds_ret (de_tupL rfl G.tuple_ (da_cons (de_sorted rfl G.sorted (da_cons (de_op op_catA l_catT (de_call c_within hr (by decide) rfl (da_cons (dv 0) (da_cons (dv 1) da_nil))) (de_tup (da_cons (dv 1) da_nil))) da_nil)) da_nil))))
abbrev s_hangs_whole : Stmt := top 66
abbrev N_hangs_whole : List Str := ["world", "forest", "lots", "x", "lot"]
theorem sc_hangs_whole : FnScope N_hangs_whole ["world", "forest"] (defScope s_hangs_whole) := ⟨rfl, rfl, rfl, by decide +kernel, rfl, by decide +kernel, by decide +kernel⟩
def d_hangs_whole (p_with_beneath : DRn) (p_parts_in : DRn) : DTS :=
 (dSeq (dSet 2 (dPub (dLc (iR1 (dCons (dCB dLen (dCons (dVar 1) dNil)) dNil)) (gN 3) dYes (dCB p_with_beneath (dCons (dVar 1) (dCons (dVar 3) dNil))) [3])))
 (dRet (dCB dAll (dCons (dPub (dLc (iL (dVar 2)) (gN 4) dYes (dOp dEq (dCB p_parts_in (dCons (dVar 0) (dCons (dVar 4) dNil))) (dTup (dCons (dVar 4) dNil))) [4])) dNil))))
theorem w_hangs_whole {P : Program} {w : World} {K : PySem.W.Frag} {mg : Str → Option Value} {base : Heap} (G : Glo K w mg) {p_with_beneath : DRn} (c_with_beneath : Cl P w K mg base "with_beneath" ["forest", "x"] 3 p_with_beneath) {p_parts_in : DRn} (c_parts_in : Cl P w K mg base "parts_in" ["world", "lot"] 2 p_parts_in) {f : Addr} {cdv : Value} {A : Around} {outer : List PySem.Env} {s : Shared} {H : Hp} {E : XK} (hr : Room 3 (bodyX P w K mg base N_hangs_whole "hangs_whole" s_hangs_whole f cdv A outer s H E).A) :
  PSs (bodyX P w K mg base N_hangs_whole "hangs_whole" s_hangs_whole f cdv A outer s H E) (defBody s_hangs_whole) (tDS K (d_hangs_whole p_with_beneath p_parts_in)) :=
 have nd := sc_hangs_whole.nd
 (ds_cons (ds_setLc (i := 2) (own := [("x", 3)]) rfl nd rfl rfl (sw_true rfl rfl rfl (by decide +kernel)) (di_range1 rfl G.range (da_cons (de_len rfl G.len (da_cons (dv 1) da_nil)) da_nil)) (blkOk_by (N := N_hangs_whole) (sc := (defScope s_hangs_whole)) (by decide +kernel)) (fun _ _ _ _ _ => (dg_name (i := 3) nd rfl (Or.inl rfl))) (fun _ _ _ _ _ => dts_nil) (fun _ _ _ _ _ => (de_call c_with_beneath hr (by decide) rfl (da_cons (dv 1) (da_cons (dv 3) da_nil)))))
 (ds_one (ds_ret (de_all rfl rfl G.all (da_cons (de_lc (own := [("lot", 4)]) rfl nd (di_lst (dv 2)) (blkOk_by (N := N_hangs_whole) (sc := (defScope s_hangs_whole)) (by decide +kernel)) (fun _ _ _ _ _ => (dg_name (i := 4) nd rfl (Or.inl rfl))) (fun _ _ _ _ _ => dts_nil) (fun _ _ _ _ _ => (de_cmp (op_eqD hr.units) l_eq (de_call c_parts_in hr (by decide) rfl (da_cons (dv 0) (da_cons (dv 4) da_nil))) (de_tup (da_cons (dv 4) da_nil)) (nomark _)))) da_nil)))))
abbrev s_stands_let : Stmt := top 67
abbrev N_stands_let : List Str := ["world", "forest", "many", "lets", "x", "y"]
theorem sc_stands_let : FnScope N_stands_let ["world", "forest"] (defScope s_stands_let) := ⟨rfl, rfl, rfl, by decide +kernel, rfl, by decide +kernel, by decide +kernel⟩
def d_stands_let (p_standing_in : DRn) : DTS :=
 (dSeq (dSet 2 (dCB dLen (dCons (dVar 1) dNil)))
 (dSeq (dSet 3 (dOp dIx (dVar 0) (dC (.int 1))))
 (dRet (dCB dAll (dCons (dPub (dL2 (iR1 (dCons (dVar 2) dNil)) 4 (iR2 (dCons (dOp oAdd (dVar 4) (dC (.int 1))) (dCons (dVar 2) dNil))) 5 (dOp dIn (dCB p_standing_in (dCons (dVar 1) (dCons (dVar 4) (dCons (dVar 5) dNil)))) (dGetT (dVar 3) (dCons (dVar 4) (dCons (dVar 5) dNil)))))) dNil)))))
theorem w_stands_let {P : Program} {w : World} {K : PySem.W.Frag} {mg : Str → Option Value} {base : Heap} (G : Glo K w mg) {p_standing_in : DRn} (c_standing_in : Cl P w K mg base "standing_in" ["forest", "x", "y"] 2 p_standing_in) {f : Addr} {cdv : Value} {A : Around} {outer : List PySem.Env} {s : Shared} {H : Hp} {E : XK} (hr : Room 2 (bodyX P w K mg base N_stands_let "stands_let" s_stands_let f cdv A outer s H E).A) :
  PSs (bodyX P w K mg base N_stands_let "stands_let" s_stands_let f cdv A outer s H E) (defBody s_stands_let) (tDS K (d_stands_let p_standing_in)) :=
 have nd := sc_stands_let.nd
 (ds_cons (ds_set (i := 2) nd rfl (Or.inr rfl) (de_len rfl G.len (da_cons (dv 1) da_nil)))
 (ds_cons (ds_set (i := 3) nd rfl (Or.inr rfl) (de_ix (dv 0) de_int))
 (ds_one (ds_ret (de_all rfl rfl G.all (da_cons (de_lc2 (v := 4) (v1 := 5) rfl nd (di_range1 rfl G.range (da_cons (dv 2) da_nil)) (blkOk_by (N := N_stands_let) (sc := (defScope s_stands_let)) (by decide +kernel)) (fun _ _ _ _ _ => pg_name (i := 4) nd rfl (Or.inl rfl)) (fun _ _ _ _ _ => (di_range2 rfl G.range (da_cons (de_op op_add l_I0 (dv 4) de_int) (da_cons (dv 2) da_nil)))) (fun _ _ _ _ _ => pg_name (i := 5) nd rfl (Or.inl rfl)) (fun _ _ _ _ _ => (de_cmp (op_inS (hu65 hr)) l_in (de_call c_standing_in hr (by decide) rfl (da_cons (dv 1) (da_cons (dv 4) (da_cons (dv 5) da_nil)))) (de_getT (hu1 hr) (dv 3) (da_cons (dv 4) (da_cons (dv 5) da_nil))) rfl))) da_nil))))))
abbrev s_is_least : Stmt := top 68
abbrev N_is_least : List Str := ["world", "forest"]
theorem sc_is_least : FnScope N_is_least ["world", "forest"] (defScope s_is_least) := ⟨rfl, rfl, rfl, by decide +kernel, rfl, by decide +kernel, by decide +kernel⟩
def d_is_least (p_stands_let : DRn) (p_hangs_whole : DRn) : DTS :=
 (dRet (dAndV (dCB p_stands_let (dCons (dVar 0) (dCons (dVar 1) dNil))) (dCB p_hangs_whole (dCons (dVar 0) (dCons (dVar 1) dNil)))))
theorem w_is_least {P : Program} {w : World} {K : PySem.W.Frag} {mg : Str → Option Value} {base : Heap} (G : Glo K w mg) {p_stands_let : DRn} (c_stands_let : Cl P w K mg base "stands_let" ["world", "forest"] 3 p_stands_let) {p_hangs_whole : DRn} (c_hangs_whole : Cl P w K mg base "hangs_whole" ["world", "forest"] 4 p_hangs_whole) {f : Addr} {cdv : Value} {A : Around} {outer : List PySem.Env} {s : Shared} {H : Hp} {E : XK} (hr : Room 4 (bodyX P w K mg base N_is_least "is_least" s_is_least f cdv A outer s H E).A) :
  PSs (bodyX P w K mg base N_is_least "is_least" s_is_least f cdv A outer s H E) (defBody s_is_least) (tDS K (d_is_least p_stands_let p_hangs_whole)) :=
 have nd := sc_is_least.nd
 (ds_one (ds_ret (de_and (de_call c_stands_let hr (by decide) rfl (da_cons (dv 0) (da_cons (dv 1) da_nil))) (de_one (de_call c_hangs_whole hr (by decide) rfl (da_cons (dv 0) (da_cons (dv 1) da_nil)))))))
abbrev s_least_right : Stmt := top 69
abbrev N_least_right : List Str := ["book", "forest"]
theorem sc_least_right : FnScope N_least_right ["book", "forest"] (defScope s_least_right) := ⟨rfl, rfl, rfl, by decide +kernel, rfl, by decide +kernel, by decide +kernel⟩
def d_least_right (p_keeps : DRn) (p_hangs_whole : DRn) (p_world_of : DRn) : DTS :=
 (dRet (dAndV (dCB p_keeps (dCons (dVar 0) (dCons (dVar 1) dNil))) (dCB p_hangs_whole (dCons (dCB p_world_of (dCons (dVar 0) dNil)) (dCons (dVar 1) dNil)))))
theorem w_least_right {P : Program} {w : World} {K : PySem.W.Frag} {mg : Str → Option Value} {base : Heap} (G : Glo K w mg) {p_keeps : DRn} (c_keeps : Cl P w K mg base "keeps" ["book", "forest"] 7 p_keeps) {p_hangs_whole : DRn} (c_hangs_whole : Cl P w K mg base "hangs_whole" ["world", "forest"] 4 p_hangs_whole) {p_world_of : DRn} (c_world_of : Cl P w K mg base "world_of" ["book"] 4 p_world_of) {f : Addr} {cdv : Value} {A : Around} {outer : List PySem.Env} {s : Shared} {H : Hp} {E : XK} (hr : Room 7 (bodyX P w K mg base N_least_right "least_right" s_least_right f cdv A outer s H E).A) :
  PSs (bodyX P w K mg base N_least_right "least_right" s_least_right f cdv A outer s H E) (defBody s_least_right) (tDS K (d_least_right p_keeps p_hangs_whole p_world_of)) :=
 have nd := sc_least_right.nd
 (ds_one (ds_ret (de_and (de_call c_keeps hr (by decide) rfl (da_cons (dv 0) (da_cons (dv 1) da_nil))) (de_one (de_call c_hangs_whole hr (by decide) rfl (da_cons (de_call c_world_of hr (by decide) rfl (da_cons (dv 0) da_nil)) (da_cons (dv 1) da_nil)))))))
abbrev s_part_with : Stmt := top 71
abbrev N_part_with : List Str := ["world", "lot", "x", "part"]
theorem sc_part_with : FnScope N_part_with ["world", "lot", "x"] (defScope s_part_with) := ⟨rfl, rfl, rfl, by decide +kernel, rfl, by decide +kernel, by decide +kernel⟩
def d_part_with (p_parts_in : DRn) : DTS :=
 (dRet (dOp dIx (dPub (dLc (iT (dCB p_parts_in (dCons (dVar 0) (dCons (dVar 1) dNil)))) (gN 3) (dTst (dOp dIn (dVar 2) (dVar 3))) (dVar 3) [3])) (dC (.int 0))))
theorem w_part_with {P : Program} {w : World} {K : PySem.W.Frag} {mg : Str → Option Value} {base : Heap} (G : Glo K w mg) {p_parts_in : DRn} (c_parts_in : Cl P w K mg base "parts_in" ["world", "lot"] 2 p_parts_in) {f : Addr} {cdv : Value} {A : Around} {outer : List PySem.Env} {s : Shared} {H : Hp} {E : XK} (hr : Room 2 (bodyX P w K mg base N_part_with "part_with" s_part_with f cdv A outer s H E).A) :
  PSs (bodyX P w K mg base N_part_with "part_with" s_part_with f cdv A outer s H E) (defBody s_part_with) (tDS K (d_part_with p_parts_in)) :=
 have nd := sc_part_with.nd
 (ds_one (ds_ret (de_ix (de_lc (own := [("part", 3)]) rfl nd (di_tup (de_call c_parts_in hr (by decide) rfl (da_cons (dv 0) (da_cons (dv 1) da_nil)))) (blkOk_by (N := N_part_with) (sc := (defScope s_part_with)) (by decide +kernel)) (fun _ _ _ _ _ => (dg_name (i := 3) nd rfl (Or.inl rfl))) (fun _ _ _ _ _ => (dts_one (dt_cmp (op_inS (hu65 hr)) l_in (dv 2) (dv 3) rfl))) (fun _ _ _ _ _ => (dv 3))) de_int)))
abbrev s_part_of_holder : Stmt := top 72
abbrev N_part_of_holder : List Str := ["world", "forest", "x", "holder"]
theorem sc_part_of_holder : FnScope N_part_of_holder ["world", "forest", "x"] (defScope s_part_of_holder) := ⟨rfl, rfl, rfl, by decide +kernel, rfl, by decide +kernel, by decide +kernel⟩
def d_part_of_holder (p_part_with : DRn) (p_without : DRn) (p_with_beneath : DRn) : DTS :=
 (dSeq (dSet 3 (dOp dIx (dOp dIx (dVar 1) (dVar 2)) (dC (.int 0))))
 (dRet (dCB p_part_with (dCons (dVar 0) (dCons (dCB p_without (dCons (dCB p_with_beneath (dCons (dVar 1) (dCons (dVar 3) dNil))) (dCons (dVar 2) dNil))) (dCons (dVar 3) dNil))))))
theorem w_part_of_holder {P : Program} {w : World} {K : PySem.W.Frag} {mg : Str → Option Value} {base : Heap} (G : Glo K w mg) {p_part_with : DRn} (c_part_with : Cl P w K mg base "part_with" ["world", "lot", "x"] 3 p_part_with) {p_without : DRn} (c_without : Cl P w K mg base "without" ["lot", "t"] 1 p_without) {p_with_beneath : DRn} (c_with_beneath : Cl P w K mg base "with_beneath" ["forest", "x"] 3 p_with_beneath) {f : Addr} {cdv : Value} {A : Around} {outer : List PySem.Env} {s : Shared} {H : Hp} {E : XK} (hr : Room 3 (bodyX P w K mg base N_part_of_holder "part_of_holder" s_part_of_holder f cdv A outer s H E).A) :
  PSs (bodyX P w K mg base N_part_of_holder "part_of_holder" s_part_of_holder f cdv A outer s H E) (defBody s_part_of_holder) (tDS K (d_part_of_holder p_part_with p_without p_with_beneath)) :=
 have nd := sc_part_of_holder.nd
 (ds_cons (ds_set (i := 3) nd rfl (Or.inl rfl) (de_ix (de_ix (dv 1) (dv 2)) de_int))
 (ds_one (ds_ret (de_call c_part_with hr (by decide) rfl (da_cons (dv 0) (da_cons (de_call c_without hr (by decide) rfl (da_cons (de_call c_with_beneath hr (by decide) rfl (da_cons (dv 1) (da_cons (dv 3) da_nil))) (da_cons (dv 2) da_nil))) (da_cons (dv 3) da_nil)))))))
abbrev s_is_free_there : Stmt := top 73
abbrev N_is_free_there : List Str := ["world", "forest", "x"]
theorem sc_is_free_there : FnScope N_is_free_there ["world", "forest", "x"] (defScope s_is_free_there) := ⟨rfl, rfl, rfl, by decide +kernel, rfl, by decide +kernel, by decide +kernel⟩
def d_is_free_there (p_free_in : DRn) (p_with_beneath : DRn) : DTS :=
 (dRet (dOp dIn (dVar 2) (dCB p_free_in (dCons (dVar 0) (dCons (dCB p_with_beneath (dCons (dVar 1) (dCons (dOp dIx (dOp dIx (dVar 1) (dVar 2)) (dC (.int 0))) dNil))) dNil)))))
theorem w_is_free_there {P : Program} {w : World} {K : PySem.W.Frag} {mg : Str → Option Value} {base : Heap} (G : Glo K w mg) {p_free_in : DRn} (c_free_in : Cl P w K mg base "free_in" ["world", "lot"] 4 p_free_in) {p_with_beneath : DRn} (c_with_beneath : Cl P w K mg base "with_beneath" ["forest", "x"] 3 p_with_beneath) {f : Addr} {cdv : Value} {A : Around} {outer : List PySem.Env} {s : Shared} {H : Hp} {E : XK} (hr : Room 4 (bodyX P w K mg base N_is_free_there "is_free_there" s_is_free_there f cdv A outer s H E).A) :
  PSs (bodyX P w K mg base N_is_free_there "is_free_there" s_is_free_there f cdv A outer s H E) (defBody s_is_free_there) (tDS K (d_is_free_there p_free_in p_with_beneath)) :=
 have nd := sc_is_free_there.nd
 (ds_one (ds_ret (de_cmp (op_inS (hu65 hr)) l_in (dv 2) (de_call c_free_in hr (by decide) rfl (da_cons (dv 0) (da_cons (de_call c_with_beneath hr (by decide) rfl (da_cons (dv 1) (da_cons (de_ix (de_ix (dv 1) (dv 2)) de_int) da_nil))) da_nil))) rfl)))
abbrev s_turn_rooms : Stmt := top 74
abbrev N_turn_rooms : List Str := ["world", "forest", "x"]
theorem sc_turn_rooms : FnScope N_turn_rooms ["world", "forest", "x"] (defScope s_turn_rooms) := ⟨rfl, rfl, rfl, by decide +kernel, rfl, by decide +kernel, by decide +kernel⟩
def d_turn_rooms (p_over_in : DRn) (p_part_of_holder : DRn) : DTS :=
 (dRet (dCB p_over_in (dCons (dVar 0) (dCons (dVar 2) (dCons (dCB p_part_of_holder (dCons (dVar 0) (dCons (dVar 1) (dCons (dVar 2) dNil)))) dNil)))))
theorem w_turn_rooms {P : Program} {w : World} {K : PySem.W.Frag} {mg : Str → Option Value} {base : Heap} (G : Glo K w mg) {p_over_in : DRn} (c_over_in : Cl P w K mg base "over_in" ["world", "t", "part"] 2 p_over_in) {p_part_of_holder : DRn} (c_part_of_holder : Cl P w K mg base "part_of_holder" ["world", "forest", "x"] 4 p_part_of_holder) {f : Addr} {cdv : Value} {A : Around} {outer : List PySem.Env} {s : Shared} {H : Hp} {E : XK} (hr : Room 4 (bodyX P w K mg base N_turn_rooms "turn_rooms" s_turn_rooms f cdv A outer s H E).A) :
  PSs (bodyX P w K mg base N_turn_rooms "turn_rooms" s_turn_rooms f cdv A outer s H E) (defBody s_turn_rooms) (tDS K (d_turn_rooms p_over_in p_part_of_holder)) :=
 have nd := sc_turn_rooms.nd
 (ds_one (ds_ret (de_call c_over_in hr (by decide) rfl (da_cons (dv 0) (da_cons (dv 2) (da_cons (de_call c_part_of_holder hr (by decide) rfl (da_cons (dv 0) (da_cons (dv 1) (da_cons (dv 2) da_nil)))) da_nil))))))
abbrev s_shift_rooms : Stmt := top 75
abbrev N_shift_rooms : List Str := ["world", "forest", "x", "holder", "here", "room"]
theorem sc_shift_rooms : FnScope N_shift_rooms ["world", "forest", "x"] (defScope s_shift_rooms) := ⟨rfl, rfl, rfl, by decide +kernel, rfl, by decide +kernel, by decide +kernel⟩
def d_shift_rooms (p_over_in : DRn) (p_with_beneath : DRn) : DTS :=
 (dSeq (dAsg (dOp dIx (dVar 1) (dVar 2)) (gT 2 (gsC (gN 3) (gsC (gN 4) gs0))))
 (dRet (dCB dTupL (dCons (dPub (dLc (iT (dCB p_over_in (dCons (dVar 0) (dCons (dVar 3) (dCons (dCB p_with_beneath (dCons (dVar 1) (dCons (dVar 2) dNil))) dNil))))) (gN 5) (dTst (dOp dNe (dVar 5) (dVar 4))) (dVar 5) [5])) dNil))))
theorem w_shift_rooms {P : Program} {w : World} {K : PySem.W.Frag} {mg : Str → Option Value} {base : Heap} (G : Glo K w mg) {p_over_in : DRn} (c_over_in : Cl P w K mg base "over_in" ["world", "t", "part"] 2 p_over_in) {p_with_beneath : DRn} (c_with_beneath : Cl P w K mg base "with_beneath" ["forest", "x"] 3 p_with_beneath) {f : Addr} {cdv : Value} {A : Around} {outer : List PySem.Env} {s : Shared} {H : Hp} {E : XK} (hr : Room 3 (bodyX P w K mg base N_shift_rooms "shift_rooms" s_shift_rooms f cdv A outer s H E).A) :
  PSs (bodyX P w K mg base N_shift_rooms "shift_rooms" s_shift_rooms f cdv A outer s H E) (defBody s_shift_rooms) (tDS K (d_shift_rooms p_over_in p_with_beneath)) :=
 have nd := sc_shift_rooms.nd
 (ds_cons (ds_asg (de_ix (dv 1) (dv 2)) (dg_tup rfl (dgs_cons (dg_name (i := 3) nd rfl (Or.inl rfl)) (dgs_cons (dg_name (i := 4) nd rfl (Or.inr rfl)) dgs_nil))))
 (ds_one (ds_ret (de_tupL rfl G.tuple_ (da_cons (de_lc (own := [("room", 5)]) rfl nd (di_tup (de_call c_over_in hr (by decide) rfl (da_cons (dv 0) (da_cons (dv 3) (da_cons (de_call c_with_beneath hr (by decide) rfl (da_cons (dv 1) (da_cons (dv 2) da_nil))) da_nil))))) (blkOk_by (N := N_shift_rooms) (sc := (defScope s_shift_rooms)) (by decide +kernel)) (fun _ _ _ _ _ => (dg_name (i := 5) nd rfl (Or.inl rfl))) (fun _ _ _ _ _ => (dts_one (dt_cmp (op_neD hr.units) l_ne (dv 5) (dv 4) (nomark _)))) (fun _ _ _ _ _ => (dv 5))) da_nil)))))
abbrev s_turn_hangs : Stmt := top 76
abbrev N_turn_hangs : List Str := ["world", "forest", "x", "room", "holder", "here", "part", "moved", "other", "place"]
theorem sc_turn_hangs : FnScope N_turn_hangs ["world", "forest", "x", "room"] (defScope s_turn_hangs) := ⟨rfl, rfl, rfl, by decide +kernel, rfl, by decide +kernel, by decide +kernel⟩
def d_turn_hangs (p_part_of_holder : DRn) : DTS :=
 (dSeq (dAsg (dOp dIx (dVar 1) (dVar 2)) (gT 2 (gsC (gN 4) (gsC (gN 5) gs0))))
 (dSeq (dSet 6 (dCB p_part_of_holder (dCons (dVar 0) (dCons (dVar 1) (dCons (dVar 2) dNil)))))
 (dSeq (dSet 7 (dPub (dLc (iEn (dCons (dVar 1) dNil)) (gT 2 (gsC (gN 8) (gsC (gN 9) gs0))) (dAnd (dTst (dOp dNotN (dVar 9) (dC .none))) (dAnd (dTst (dOp dEq (dOp dIx (dVar 9) (dC (.int 0))) (dVar 2))) (dTst (dOp dIn (dVar 8) (dVar 6))))) (dVar 8) [8, 9])))
 (dRet (dOp dCatT (dTup (dCons (dTup (dCons (dVar 2) (dCons (dOp dIx (dVar 1) (dVar 4)) dNil))) (dCons (dTup (dCons (dVar 4) (dCons (dTup (dCons (dVar 2) (dCons (dVar 3) dNil))) dNil))) dNil))) (dCB dTupL (dCons (dPub (dLc (iL (dVar 7)) (gN 8) dYes (dTup (dCons (dVar 8) (dCons (dTup (dCons (dVar 4) (dCons (dVar 5) dNil))) dNil))) [8])) dNil)))))))
theorem w_turn_hangs {P : Program} {w : World} {K : PySem.W.Frag} {mg : Str → Option Value} {base : Heap} (G : Glo K w mg) {p_part_of_holder : DRn} (c_part_of_holder : Cl P w K mg base "part_of_holder" ["world", "forest", "x"] 4 p_part_of_holder) {f : Addr} {cdv : Value} {A : Around} {outer : List PySem.Env} {s : Shared} {H : Hp} {E : XK} (hr : Room 4 (bodyX P w K mg base N_turn_hangs "turn_hangs" s_turn_hangs f cdv A outer s H E).A) :
  PSs (bodyX P w K mg base N_turn_hangs "turn_hangs" s_turn_hangs f cdv A outer s H E) (defBody s_turn_hangs) (tDS K (d_turn_hangs p_part_of_holder)) :=
 have nd := sc_turn_hangs.nd
 (ds_cons (ds_asg (de_ix (dv 1) (dv 2)) (dg_tup rfl (dgs_cons (dg_name (i := 4) nd rfl (Or.inr rfl)) (dgs_cons (dg_name (i := 5) nd rfl (Or.inr rfl)) dgs_nil))))
 (ds_cons (ds_set (i := 6) nd rfl (Or.inr rfl) (de_call c_part_of_holder hr (by decide) rfl (da_cons (dv 0) (da_cons (dv 1) (da_cons (dv 2) da_nil)))))
 (ds_cons (ds_setLc (i := 7) (own := [("other", 8), ("place", 9)]) rfl nd rfl rfl (sw_true rfl rfl rfl (by decide +kernel)) (di_enum rfl G.enumerate (da_cons (dv 1) da_nil)) (blkOk_by (N := N_turn_hangs) (sc := (defScope s_turn_hangs)) (by decide +kernel)) (fun _ _ _ _ _ => (dg_tup rfl (dgs_cons (dg_name (i := 8) nd rfl (Or.inl rfl)) (dgs_cons (dg_name (i := 9) nd rfl (Or.inl rfl)) dgs_nil)))) (fun _ _ _ _ _ => (dts_one (PW.pt (dw_and (dt_cmp op_notN l_notN (dv 9) de_non (nomark _)) (dw_and (dt_cmp (op_eqD hr.units) l_eq (de_ix (dv 9) de_int) (dv 2) (nomark _)) (dw_and1 (dt_cmp (op_inS (hu65 hr)) l_in (dv 8) (dv 6) rfl))))))) (fun _ _ _ _ _ => (dv 8)))
 (ds_one (ds_ret (de_op op_catA l_catT (de_tup (da_cons (de_tup (da_cons (dv 2) (da_cons (de_ix (dv 1) (dv 4)) da_nil))) (da_cons (de_tup (da_cons (dv 4) (da_cons (de_tup (da_cons (dv 2) (da_cons (dv 3) da_nil))) da_nil))) da_nil))) (de_tupL rfl G.tuple_ (da_cons (de_lc (own := [("other", 8)]) rfl nd (di_lst (dv 7)) (blkOk_by (N := N_turn_hangs) (sc := (defScope s_turn_hangs)) (by decide +kernel)) (fun _ _ _ _ _ => (dg_name (i := 8) nd rfl (Or.inl rfl))) (fun _ _ _ _ _ => dts_nil) (fun _ _ _ _ _ => (de_tup (da_cons (dv 8) (da_cons (de_tup (da_cons (dv 4) (da_cons (dv 5) da_nil))) da_nil))))) da_nil))))))))
abbrev s_deed_hangs : Stmt := top 77
abbrev N_deed_hangs : List Str := ["world", "forest", "deed", "word", "x", "room"]
theorem sc_deed_hangs : FnScope N_deed_hangs ["world", "forest", "deed"] (defScope s_deed_hangs) := ⟨rfl, rfl, rfl, by decide +kernel, rfl, by decide +kernel, by decide +kernel⟩
def d_deed_hangs (p_turn_hangs : DRn) : DTS :=
 (dSeq (dAsg (dVar 2) (gT 3 (gsC (gN 3) (gsC (gN 4) (gsC (gN 5) gs0)))))
 (dSeq (dIfS (dTst (dOp dEq (dVar 3) (dC (.str "turn")))) (dRet (dCB p_turn_hangs (dCons (dVar 0) (dCons (dVar 1) (dCons (dVar 4) (dCons (dVar 5) dNil)))))) dNext)
 (dRet (dTup (dCons (dTup (dCons (dVar 4) (dCons (dTup (dCons (dOp dIx (dOp dIx (dVar 1) (dVar 4)) (dC (.int 0))) (dCons (dVar 5) dNil))) dNil))) dNil)))))
theorem w_deed_hangs {P : Program} {w : World} {K : PySem.W.Frag} {mg : Str → Option Value} {base : Heap} (G : Glo K w mg) {p_turn_hangs : DRn} (c_turn_hangs : Cl P w K mg base "turn_hangs" ["world", "forest", "x", "room"] 5 p_turn_hangs) {f : Addr} {cdv : Value} {A : Around} {outer : List PySem.Env} {s : Shared} {H : Hp} {E : XK} (hr : Room 5 (bodyX P w K mg base N_deed_hangs "deed_hangs" s_deed_hangs f cdv A outer s H E).A) :
  PSs (bodyX P w K mg base N_deed_hangs "deed_hangs" s_deed_hangs f cdv A outer s H E) (defBody s_deed_hangs) (tDS K (d_deed_hangs p_turn_hangs)) :=
 have nd := sc_deed_hangs.nd
 (ds_cons (ds_asg (dv 2) (dg_tup rfl (dgs_cons (dg_name (i := 3) nd rfl (Or.inl rfl)) (dgs_cons (dg_name (i := 4) nd rfl (Or.inl rfl)) (dgs_cons (dg_name (i := 5) nd rfl (Or.inl rfl)) dgs_nil)))))
 (ds_cons (ds_if (dt_cmp (op_eqD hr.units) l_eq (dv 3) de_str (nomark _)) (ds_one (ds_ret (de_call c_turn_hangs hr (by decide) rfl (da_cons (dv 0) (da_cons (dv 1) (da_cons (dv 4) (da_cons (dv 5) da_nil))))))) ds_nil)
 (ds_one (ds_ret (de_tup (da_cons (de_tup (da_cons (dv 4) (da_cons (de_tup (da_cons (de_ix (de_ix (dv 1) (dv 4)) de_int) (da_cons (dv 5) da_nil))) da_nil))) da_nil))))))
abbrev s_all_put : Stmt := top 78
abbrev N_all_put : List Str := ["forest", "row", "x", "place"]
theorem sc_all_put : FnScope N_all_put ["forest", "row"] (defScope s_all_put) := ⟨rfl, rfl, rfl, by decide +kernel, rfl, by decide +kernel, by decide +kernel⟩
def d_all_put (p_put : DRn) : DTS :=
 (dSeq (dFor (iT (dVar 1)) (gT 2 (gsC (gN 2) (gsC (gN 3) gs0))) (dSet 0 (dCB p_put (dCons (dVar 0) (dCons (dVar 2) (dCons (dVar 3) dNil))))))
 (dRet (dVar 0)))
theorem w_all_put {P : Program} {w : World} {K : PySem.W.Frag} {mg : Str → Option Value} {base : Heap} (G : Glo K w mg) {p_put : DRn} (c_put : Cl P w K mg base "put" ["forest", "x", "place"] 1 p_put) {f : Addr} {cdv : Value} {A : Around} {outer : List PySem.Env} {s : Shared} {H : Hp} {E : XK} (hr : Room 1 (bodyX P w K mg base N_all_put "all_put" s_all_put f cdv A outer s H E).A) :
  PSs (bodyX P w K mg base N_all_put "all_put" s_all_put f cdv A outer s H E) (defBody s_all_put) (tDS K (d_all_put p_put)) :=
 have nd := sc_all_put.nd
 (ds_cons (ds_for PassesOwn.never rfl (di_tup (dv 1)) (dg_tup rfl (dgs_cons (dg_name (i := 2) nd rfl (Or.inl rfl)) (dgs_cons (dg_name (i := 3) nd rfl (Or.inl rfl)) dgs_nil))) (ds_one (ds_set (i := 0) nd rfl (Or.inl rfl) (de_call c_put hr (by decide) rfl (da_cons (dv 0) (da_cons (dv 2) (da_cons (dv 3) da_nil)))))))
 (ds_one (ds_ret (dv 0))))
abbrev s_behind : Stmt := top 79
abbrev N_behind : List Str := ["world", "forest", "deed"]
theorem sc_behind : FnScope N_behind ["world", "forest", "deed"] (defScope s_behind) := ⟨rfl, rfl, rfl, by decide +kernel, rfl, by decide +kernel, by decide +kernel⟩
def d_behind (p_all_put : DRn) (p_deed_hangs : DRn) : DTS :=
 (dRet (dCB p_all_put (dCons (dVar 1) (dCons (dCB p_deed_hangs (dCons (dVar 0) (dCons (dVar 1) (dCons (dVar 2) dNil)))) dNil))))
theorem w_behind {P : Program} {w : World} {K : PySem.W.Frag} {mg : Str → Option Value} {base : Heap} (G : Glo K w mg) {p_all_put : DRn} (c_all_put : Cl P w K mg base "all_put" ["forest", "row"] 2 p_all_put) {p_deed_hangs : DRn} (c_deed_hangs : Cl P w K mg base "deed_hangs" ["world", "forest", "deed"] 6 p_deed_hangs) {f : Addr} {cdv : Value} {A : Around} {outer : List PySem.Env} {s : Shared} {H : Hp} {E : XK} (hr : Room 6 (bodyX P w K mg base N_behind "behind" s_behind f cdv A outer s H E).A) :
  PSs (bodyX P w K mg base N_behind "behind" s_behind f cdv A outer s H E) (defBody s_behind) (tDS K (d_behind p_all_put p_deed_hangs)) :=
 have nd := sc_behind.nd
 (ds_one (ds_ret (de_call c_all_put hr (by decide) rfl (da_cons (dv 1) (da_cons (de_call c_deed_hangs hr (by decide) rfl (da_cons (dv 0) (da_cons (dv 1) (da_cons (dv 2) da_nil)))) da_nil)))))
abbrev s_is_deed : Stmt := top 80
abbrev N_is_deed : List Str := ["thing"]
theorem sc_is_deed : FnScope N_is_deed ["thing"] (defScope s_is_deed) := ⟨rfl, rfl, rfl, by decide +kernel, rfl, by decide +kernel, by decide +kernel⟩
def d_is_deed (p_is_whole : DRn) : DTS :=
 (dSeq (dIfS (dOr (dNot (dTst (dIsi "tuple" (dVar 0)))) (dOr (dTst (dOp dNe (dCB dLen (dCons (dVar 0) dNil)) (dC (.int 3)))) (dNot (dTst (dIsi "str" (dOp dIx (dVar 0) (dC (.int 0)))))))) (dRet (dC (.bool false))) dNext)
 (dRet (dAndV (dOp dIn (dOp dIx (dVar 0) (dC (.int 0))) (dTup (dCons (dC (.str "turn")) (dCons (dC (.str "shift")) dNil)))) (dAndV (dCB p_is_whole (dCons (dOp dIx (dVar 0) (dC (.int 1))) dNil)) (dCB p_is_whole (dCons (dOp dIx (dVar 0) (dC (.int 2))) dNil))))))
theorem w_is_deed {P : Program} {w : World} {K : PySem.W.Frag} {mg : Str → Option Value} {base : Heap} (G : Glo K w mg) {p_is_whole : DRn} (c_is_whole : Cl P w K mg base "is_whole" ["value"] 1 p_is_whole) {f : Addr} {cdv : Value} {A : Around} {outer : List PySem.Env} {s : Shared} {H : Hp} {E : XK} (hr : Room 1 (bodyX P w K mg base N_is_deed "is_deed" s_is_deed f cdv A outer s H E).A) :
  PSs (bodyX P w K mg base N_is_deed "is_deed" s_is_deed f cdv A outer s H E) (defBody s_is_deed) (tDS K (d_is_deed p_is_whole)) :=
 have nd := sc_is_deed.nd
 (ds_cons (ds_if (PW.pt (dw_or (dt_not (dt_val (de_isi (T := "tuple") rfl G.isinstance (dv 0) (pe_bltn (v := .ty "tuple") rfl G.tuple_ bt_tuple rfl)))) (dw_or (dt_cmp (op_neD hr.units) l_ne (de_len rfl G.len (da_cons (dv 0) da_nil)) de_int (nomark _)) (dw_or1 (dt_not (dt_val (de_isi (T := "str") rfl G.isinstance (de_ix (dv 0) de_int) (pe_bltn (v := .ty "str") rfl G.str_ bt_str rfl)))))))) (ds_one (ds_ret de_bl)) ds_nil)
 (ds_one (ds_ret (de_and (de_cmp (op_inS (hu65 hr)) l_in (de_ix (dv 0) de_int) (de_tup (da_cons de_str (da_cons de_str da_nil))) rfl) (de_and (de_call c_is_whole hr (by decide) rfl (da_cons (de_ix (dv 0) de_int) da_nil)) (de_one (de_call c_is_whole hr (by decide) rfl (da_cons (de_ix (dv 0) de_int) da_nil))))))))
abbrev s_want_granted : Stmt := top 81
abbrev N_want_granted : List Str := ["world", "forest", "deed", "word", "x", "room"]
theorem sc_want_granted : FnScope N_want_granted ["world", "forest", "deed"] (defScope s_want_granted) := ⟨rfl, rfl, rfl, by decide +kernel, rfl, by decide +kernel, by decide +kernel⟩
def d_want_granted (p_is_deed : DRn) (p_is_thing : DRn) (p_shift_rooms : DRn) (p_is_free_there : DRn) (p_turn_rooms : DRn) : DTS :=
 (dSeq (dIfS (dNot (dTst (dCB p_is_deed (dCons (dVar 2) dNil)))) dNever dNext)
 (dSeq (dAsg (dVar 2) (gT 3 (gsC (gN 3) (gsC (gN 4) (gsC (gN 5) gs0)))))
 (dSeq (dIfS (dNot (dTst (dCB p_is_thing (dCons (dOp dIx (dVar 0) (dC (.int 0))) (dCons (dVar 4) dNil))))) dNever dNext)
 (dSeq (dIfS (dTst (dOp dIsN (dOp dIx (dVar 1) (dVar 4)) (dC .none))) dNever dNext)
 (dSeq (dIfS (dAnd (dTst (dOp dEq (dVar 3) (dC (.str "shift")))) (dTst (dOp dNotIn (dVar 5) (dCB p_shift_rooms (dCons (dVar 0) (dCons (dVar 1) (dCons (dVar 4) dNil))))))) dNever dNext)
 (dSeq (dIfS (dAnd (dTst (dOp dEq (dVar 3) (dC (.str "turn")))) (dNot (dTst (dCB p_is_free_there (dCons (dVar 0) (dCons (dVar 1) (dCons (dVar 4) dNil))))))) dNever dNext)
 (dIfS (dAnd (dTst (dOp dEq (dVar 3) (dC (.str "turn")))) (dTst (dOp dNotIn (dVar 5) (dCB p_turn_rooms (dCons (dVar 0) (dCons (dVar 1) (dCons (dVar 4) dNil))))))) dNever dNext)))))))
theorem w_want_granted {P : Program} {w : World} {K : PySem.W.Frag} {mg : Str → Option Value} {base : Heap} (G : Glo K w mg) {p_is_deed : DRn} (c_is_deed : Cl P w K mg base "is_deed" ["thing"] 2 p_is_deed) {p_is_thing : DRn} (c_is_thing : Cl P w K mg base "is_thing" ["rooms", "x"] 2 p_is_thing) {p_shift_rooms : DRn} (c_shift_rooms : Cl P w K mg base "shift_rooms" ["world", "forest", "x"] 4 p_shift_rooms) {p_is_free_there : DRn} (c_is_free_there : Cl P w K mg base "is_free_there" ["world", "forest", "x"] 5 p_is_free_there) {p_turn_rooms : DRn} (c_turn_rooms : Cl P w K mg base "turn_rooms" ["world", "forest", "x"] 5 p_turn_rooms) {f : Addr} {cdv : Value} {A : Around} {outer : List PySem.Env} {s : Shared} {H : Hp} {E : XK} (hr : Room 5 (bodyX P w K mg base N_want_granted "want_granted" s_want_granted f cdv A outer s H E).A) :
  PSs (bodyX P w K mg base N_want_granted "want_granted" s_want_granted f cdv A outer s H E) (defBody s_want_granted) (tDS K (d_want_granted p_is_deed p_is_thing p_shift_rooms p_is_free_there p_turn_rooms)) :=
 have nd := sc_want_granted.nd
 (ds_cons (ds_if (dt_not (dt_val (de_call c_is_deed hr (by decide) rfl (da_cons (dv 2) da_nil)))) (ds_one ds_never) ds_nil)
 (ds_cons (ds_asg (dv 2) (dg_tup rfl (dgs_cons (dg_name (i := 3) nd rfl (Or.inl rfl)) (dgs_cons (dg_name (i := 4) nd rfl (Or.inl rfl)) (dgs_cons (dg_name (i := 5) nd rfl (Or.inl rfl)) dgs_nil)))))
 (ds_cons (ds_if (dt_not (dt_val (de_call c_is_thing hr (by decide) rfl (da_cons (de_ix (dv 0) de_int) (da_cons (dv 4) da_nil))))) (ds_one ds_never) ds_nil)
 (ds_cons (ds_if (dt_cmp op_isN l_isN (de_ix (dv 1) (dv 4)) de_non (nomark _)) (ds_one ds_never) ds_nil)
 (ds_cons (ds_if (PW.pt (dw_and (dt_cmp (op_eqD hr.units) l_eq (dv 3) de_str (nomark _)) (dw_and1 (dt_cmp (op_notInS (hu65 hr)) l_notIn (dv 5) (de_call c_shift_rooms hr (by decide) rfl (da_cons (dv 0) (da_cons (dv 1) (da_cons (dv 4) da_nil)))) rfl)))) (ds_one ds_never) ds_nil)
 (ds_cons (ds_if (PW.pt (dw_and (dt_cmp (op_eqD hr.units) l_eq (dv 3) de_str (nomark _)) (dw_and1 (dt_not (dt_val (de_call c_is_free_there hr (by decide) rfl (da_cons (dv 0) (da_cons (dv 1) (da_cons (dv 4) da_nil))))))))) (ds_one ds_never) ds_nil)
 (ds_one (ds_if (PW.pt (dw_and (dt_cmp (op_eqD hr.units) l_eq (dv 3) de_str (nomark _)) (dw_and1 (dt_cmp (op_notInS (hu65 hr)) l_notIn (dv 5) (de_call c_turn_rooms hr (by decide) rfl (da_cons (dv 0) (da_cons (dv 1) (da_cons (dv 4) da_nil)))) rfl)))) (ds_one ds_never) ds_nil))))))))
abbrev s_hangs : Stmt := top 82
abbrev N_hangs : List Str := ["book", "forest", "deed", "rooms", "world"]
theorem sc_hangs : FnScope N_hangs ["book", "forest", "deed"] (defScope s_hangs) := ⟨rfl, rfl, rfl, by decide +kernel, rfl, by decide +kernel, by decide +kernel⟩
def d_hangs (p_made_book : DRn) (p_made_forest : DRn) (p_world_of : DRn) (p_is_least : DRn) (p_want_granted : DRn) (p_deed_hangs : DRn) : DTS :=
 (dSeq (dSet 0 (dCB p_made_book (dCons (dVar 0) dNil)))
 (dSeq (dSet 3 (dOp dIx (dVar 0) (dC (.int 0))))
 (dSeq (dSet 1 (dCB p_made_forest (dCons (dVar 3) (dCons (dVar 1) dNil))))
 (dSeq (dSet 4 (dCB p_world_of (dCons (dVar 0) dNil)))
 (dSeq (dIfS (dNot (dTst (dCB p_is_least (dCons (dVar 4) (dCons (dVar 1) dNil))))) dNever dNext)
 (dSeq (dDrop (dCB p_want_granted (dCons (dVar 4) (dCons (dVar 1) (dCons (dVar 2) dNil)))))
 (dRet (dCB p_deed_hangs (dCons (dVar 4) (dCons (dVar 1) (dCons (dVar 2) dNil)))))))))))
theorem w_hangs {P : Program} {w : World} {K : PySem.W.Frag} {mg : Str → Option Value} {base : Heap} (G : Glo K w mg) {p_made_book : DRn} (c_made_book : Cl P w K mg base "made_book" ["thing"] 6 p_made_book) {p_made_forest : DRn} (c_made_forest : Cl P w K mg base "made_forest" ["rooms", "forest"] 4 p_made_forest) {p_world_of : DRn} (c_world_of : Cl P w K mg base "world_of" ["book"] 4 p_world_of) {p_is_least : DRn} (c_is_least : Cl P w K mg base "is_least" ["world", "forest"] 5 p_is_least) {p_want_granted : DRn} (c_want_granted : Cl P w K mg base "want_granted" ["world", "forest", "deed"] 6 p_want_granted) {p_deed_hangs : DRn} (c_deed_hangs : Cl P w K mg base "deed_hangs" ["world", "forest", "deed"] 6 p_deed_hangs) {f : Addr} {cdv : Value} {A : Around} {outer : List PySem.Env} {s : Shared} {H : Hp} {E : XK} (hr : Room 6 (bodyX P w K mg base N_hangs "hangs" s_hangs f cdv A outer s H E).A) :
  PSs (bodyX P w K mg base N_hangs "hangs" s_hangs f cdv A outer s H E) (defBody s_hangs) (tDS K (d_hangs p_made_book p_made_forest p_world_of p_is_least p_want_granted p_deed_hangs)) :=
 have nd := sc_hangs.nd
 (ds_cons (ds_set (i := 0) nd rfl (Or.inl rfl) (de_call c_made_book hr (by decide) rfl (da_cons (dv 0) da_nil)))
 (ds_cons (ds_set (i := 3) nd rfl (Or.inl rfl) (de_ix (dv 0) de_int))
 (ds_cons (ds_set (i := 1) nd rfl (Or.inl rfl) (de_call c_made_forest hr (by decide) rfl (da_cons (dv 3) (da_cons (dv 1) da_nil))))
 (ds_cons (ds_set (i := 4) nd rfl (Or.inl rfl) (de_call c_world_of hr (by decide) rfl (da_cons (dv 0) da_nil)))
 (ds_cons (ds_if (dt_not (dt_val (de_call c_is_least hr (by decide) rfl (da_cons (dv 4) (da_cons (dv 1) da_nil))))) (ds_one ds_never) ds_nil)
 (ds_cons (ds_expr (de_call c_want_granted hr (by decide) rfl (da_cons (dv 4) (da_cons (dv 1) (da_cons (dv 2) da_nil)))))
 (ds_one (ds_ret (de_call c_deed_hangs hr (by decide) rfl (da_cons (dv 4) (da_cons (dv 1) (da_cons (dv 2) da_nil))))))))))))
abbrev s_after : Stmt := top 83
abbrev N_after : List Str := ["book", "forest", "deed", "told"]
theorem sc_after : FnScope N_after ["book", "forest", "deed"] (defScope s_after) := ⟨rfl, rfl, rfl, by decide +kernel, rfl, by decide +kernel, by decide +kernel⟩
def d_after (p_hangs : DRn) (p_all_put : DRn) (p_made_forest : DRn) : DTS :=
 (dSeq (dSet 3 (dCB p_hangs (dCons (dVar 0) (dCons (dVar 1) (dCons (dVar 2) dNil)))))
 (dRet (dCB p_all_put (dCons (dCB p_made_forest (dCons (dOp dIx (dVar 0) (dC (.int 0))) (dCons (dVar 1) dNil))) (dCons (dVar 3) dNil)))))
theorem w_after {P : Program} {w : World} {K : PySem.W.Frag} {mg : Str → Option Value} {base : Heap} (G : Glo K w mg) {p_hangs : DRn} (c_hangs : Cl P w K mg base "hangs" ["book", "forest", "deed"] 7 p_hangs) {p_all_put : DRn} (c_all_put : Cl P w K mg base "all_put" ["forest", "row"] 2 p_all_put) {p_made_forest : DRn} (c_made_forest : Cl P w K mg base "made_forest" ["rooms", "forest"] 4 p_made_forest) {f : Addr} {cdv : Value} {A : Around} {outer : List PySem.Env} {s : Shared} {H : Hp} {E : XK} (hr : Room 7 (bodyX P w K mg base N_after "after" s_after f cdv A outer s H E).A) :
  PSs (bodyX P w K mg base N_after "after" s_after f cdv A outer s H E) (defBody s_after) (tDS K (d_after p_hangs p_all_put p_made_forest)) :=
 have nd := sc_after.nd
 (ds_cons (ds_set (i := 3) nd rfl (Or.inl rfl) (de_call c_hangs hr (by decide) rfl (da_cons (dv 0) (da_cons (dv 1) (da_cons (dv 2) da_nil)))))
 (ds_one (ds_ret (de_call c_all_put hr (by decide) rfl (da_cons (de_call c_made_forest hr (by decide) rfl (da_cons (de_ix (dv 0) de_int) (da_cons (dv 1) da_nil))) (da_cons (dv 3) da_nil))))))
abbrev s_outermost : Stmt := top 85
abbrev N_outermost : List Str := ["forest", "part", "x"]
theorem sc_outermost : FnScope N_outermost ["forest", "part"] (defScope s_outermost) := ⟨rfl, rfl, rfl, by decide +kernel, rfl, by decide +kernel, by decide +kernel⟩
def d_outermost : DTS :=
 (dRet (dOp dIx (dPub (dLc (iT (dVar 1)) (gN 2) (dOr (dTst (dOp dIsN (dOp dIx (dVar 0) (dVar 2)) (dC .none))) (dTst (dOp dNotIn (dOp dIx (dOp dIx (dVar 0) (dVar 2)) (dC (.int 0))) (dVar 1)))) (dVar 2) [2])) (dC (.int 0))))
theorem w_outermost {P : Program} {w : World} {K : PySem.W.Frag} {mg : Str → Option Value} {base : Heap} (G : Glo K w mg) {f : Addr} {cdv : Value} {A : Around} {outer : List PySem.Env} {s : Shared} {H : Hp} {E : XK} (hr : Room 0 (bodyX P w K mg base N_outermost "outermost" s_outermost f cdv A outer s H E).A) :
  PSs (bodyX P w K mg base N_outermost "outermost" s_outermost f cdv A outer s H E) (defBody s_outermost) (tDS K (d_outermost)) :=
 have nd := sc_outermost.nd
 (ds_one (ds_ret (de_ix (de_lc (own := [("x", 2)]) rfl nd (di_tup (dv 1)) (blkOk_by (N := N_outermost) (sc := (defScope s_outermost)) (by decide +kernel)) (fun _ _ _ _ _ => (dg_name (i := 2) nd rfl (Or.inl rfl))) (fun _ _ _ _ _ => (dts_one (PW.pt (dw_or (dt_cmp op_isN l_isN (de_ix (dv 0) (dv 2)) de_non (nomark _)) (dw_or1 (dt_cmp (op_notInS (hu65 hr)) l_notIn (de_ix (de_ix (dv 0) (dv 2)) de_int) (dv 1) rfl)))))) (fun _ _ _ _ _ => (dv 2))) de_int)))
abbrev s_walk : Stmt := top 87
abbrev N_walk : List Str := ["book", "one", "two", "rooms", "world", "course", "part"]
theorem sc_walk : FnScope N_walk ["book", "one", "two"] (defScope s_walk) := ⟨rfl, rfl, rfl, by decide +kernel, rfl, by decide +kernel, by decide +kernel⟩
def d_walk (C : Addr) (p_made_book : DRn) (p_made_forest : DRn) (p_world_of : DRn) (p_is_least : DRn) (p_parts_in : DRn) (p_Course_lead : DR1) : DTS :=
 (dSeq (dSet 0 (dCB p_made_book (dCons (dVar 0) dNil)))
 (dSeq (dSet 3 (dOp dIx (dVar 0) (dC (.int 0))))
 (dSeq (dSet 1 (dCB p_made_forest (dCons (dVar 3) (dCons (dVar 1) dNil))))
 (dSeq (dSet 2 (dCB p_made_forest (dCons (dVar 3) (dCons (dVar 2) dNil))))
 (dSeq (dSet 4 (dCB p_world_of (dCons (dVar 0) dNil)))
 (dSeq (dIfS (dNot (dTst (dCB p_is_least (dCons (dVar 4) (dCons (dVar 1) dNil))))) dNever dNext)
 (dSeq (dIfS (dNot (dTst (dCB p_is_least (dCons (dVar 4) (dCons (dVar 2) dNil))))) dNever dNext)
 (dSeq (dSetF 5 (dMake C (dCons (dVar 4) (dCons (dVar 1) (dCons (dVar 2) dNil)))))
 (dSeq (dFor (iT (dCB p_parts_in (dCons (dVar 4) (dCons (dTupRg (dCB dLen (dCons (dVar 3) dNil))) dNil)))) (gN 6) (dDrop (dMeth C 5 p_Course_lead (dCons (dVar 6) dNil))))
 (dRet (dTupR C 5)))))))))))
theorem w_walk {P : Program} {w : World} {K : PySem.W.Frag} {mg : Str → Option Value} {base : Heap} (G : Glo K w mg) {C : Addr} (T : CTxt K mg C) {p_made_book : DRn} (c_made_book : Cl P w K mg base "made_book" ["thing"] 6 p_made_book) {p_made_forest : DRn} (c_made_forest : Cl P w K mg base "made_forest" ["rooms", "forest"] 4 p_made_forest) {p_world_of : DRn} (c_world_of : Cl P w K mg base "world_of" ["book"] 4 p_world_of) {p_is_least : DRn} (c_is_least : Cl P w K mg base "is_least" ["world", "forest"] 5 p_is_least) {p_parts_in : DRn} (c_parts_in : Cl P w K mg base "parts_in" ["world", "lot"] 2 p_parts_in) (c_init : ClI P w K mg base C 1) {p_Course_lead : DR1} (c_Course_lead : ClM P w K mg base C "lead" ["self", "part"] 17 p_Course_lead) {f : Addr} {cdv : Value} {A : Around} {outer : List PySem.Env} {s : Shared} {H : Hp} {E : XK} (hr : Room 17 (bodyX P w K mg base N_walk "walk" s_walk f cdv A outer s H E).A) :
  PSs (bodyX P w K mg base N_walk "walk" s_walk f cdv A outer s H E) (defBody s_walk) (tDS K (d_walk C p_made_book p_made_forest p_world_of p_is_least p_parts_in p_Course_lead)) :=
 have nd := sc_walk.nd
 (ds_cons (ds_set (i := 0) nd rfl (Or.inl rfl) (de_call c_made_book hr (by decide) rfl (da_cons (dv 0) da_nil)))
 (ds_cons (ds_set (i := 3) nd rfl (Or.inl rfl) (de_ix (dv 0) de_int))
 (ds_cons (ds_set (i := 1) nd rfl (Or.inl rfl) (de_call c_made_forest hr (by decide) rfl (da_cons (dv 3) (da_cons (dv 1) da_nil))))
 (ds_cons (ds_set (i := 2) nd rfl (Or.inl rfl) (de_call c_made_forest hr (by decide) rfl (da_cons (dv 3) (da_cons (dv 2) da_nil))))
 (ds_cons (ds_set (i := 4) nd rfl (Or.inl rfl) (de_call c_world_of hr (by decide) rfl (da_cons (dv 0) da_nil)))
 (ds_cons (ds_if (dt_not (dt_val (de_call c_is_least hr (by decide) rfl (da_cons (dv 4) (da_cons (dv 1) da_nil))))) (ds_one ds_never) ds_nil)
 (ds_cons (ds_if (dt_not (dt_val (de_call c_is_least hr (by decide) rfl (da_cons (dv 4) (da_cons (dv 2) da_nil))))) (ds_one ds_never) ds_nil)
 (ds_cons (ds_setF (i := 5) nd rfl (Or.inl rfl) (df_make c_init (hr.mono (by decide)) rfl T.mgC (da_cons (dv 4) (da_cons (dv 1) (da_cons (dv 2) da_nil)))))
 (ds_cons (ds_for PassesOwn.never rfl (di_tup (de_call c_parts_in hr (by decide) rfl (da_cons (dv 4) (da_cons (de_tupRg rfl rfl G.tuple_ rfl G.range (de_len rfl G.len (da_cons (dv 3) da_nil))) da_nil)))) (dg_name (i := 6) nd rfl (Or.inl rfl)) (ds_one (ds_expr (de_meth c_Course_lead T hr (by decide) (L2.pv 5) (da_cons (dv 6) da_nil)))))
 (ds_one (ds_ret (de_tupR T (L2.pv 5) rfl G.tuple_))))))))))))
abbrev s__law_pool : Stmt := top 89
abbrev N__law_pool : List Str := ["_law_script", "_law_k", "_law_cell", "_law_big", "_law_mixed_here"]
theorem sc__law_pool : FnScope N__law_pool ["_law_script", "_law_k"] (defScope s__law_pool) := ⟨rfl, rfl, rfl, by decide +kernel, rfl, by decide +kernel, by decide +kernel⟩
def d__law_pool : DTS :=
 (dSeq (dSet 2 (dC (.int 0)))
 (dSeq (dIfS (dTst (dOp oLt (dVar 1) (dCB dLenScr (dCons (dVar 0) dNil)))) (dSet 2 (dOp dIxScr (dVar 0) (dVar 1))) (dIfS (dTst (dOp dNeScr (dVar 0) (dLst dNil))) (dSet 2 (dOp dIxScr (dVar 0) (dC (.int 0)))) dNext))
 (dSeq (dSet 3 (dCB dMax (dCons (dCB dInt (dCons (dVar 2) dNil)) (dCons (dCB dInt (dCons (dOp oSub (dNeg (dC (.int 1))) (dVar 2)) dNil)) dNil))))
 (dSeq (dSet 4 (dOp oMod (dCB dInt (dCons (dOp oMul (dOp oAdd (dOp oAdd (dOp oAdd (dOp oMod (dCB dInt (dCons (dVar 3) dNil)) (dC (.int 2147483629))) (dOp oMul (dOp oMul (dC (.int 7919)) (dVar 1)) (dVar 1))) (dOp oMul (dC (.int 31)) (dVar 1))) (dC (.int 17))) (dC (.int 48271))) dNil)) (dC (.int 2147483647))))
 (dRetF (dLstF (dCons (dOp oMul (dVar 3) (dCB dInt (dCons (dAndV (dOp oGe (dVar 3) (dOp oPow (dC (.int 10)) (dC (.int 18)))) (dOp oLt (dVar 1) (dCB dLenScr (dCons (dVar 0) dNil)))) dNil))) (dCons (dVar 4) dNil))))))))
theorem w__law_pool {P : Program} {w : World} {K : PySem.W.Frag} {mg : Str → Option Value} {base : Heap} (G : Glo K w mg) {f : Addr} {cdv : Value} {A : Around} {outer : List PySem.Env} {s : Shared} {H : Hp} {E : XK} (hr : Room 0 (bodyX P w K mg base N__law_pool "_law_pool" s__law_pool f cdv A outer s H E).A) :
  PSs (bodyX P w K mg base N__law_pool "_law_pool" s__law_pool f cdv A outer s H E) (defBody s__law_pool) (tDS K (d__law_pool)) :=
 have nd := sc__law_pool.nd
 (ds_cons (ds_set (i := 2) nd rfl (Or.inl rfl) de_int)
 (ds_cons (ds_if (dt_cmp op_lt l_IB (dv 1) (de_lenScr rfl G.len (da_cons (dv 0) da_nil)) (nomark _)) (ds_one (ds_set (i := 2) nd rfl (Or.inl rfl) (de_ixScr (dv 0) (dv 1)))) (ds_one (ds_if (dt_cmp (op_neD hr.units) l_neScr (dv 0) (de_lst da_nil) (nomark _)) (ds_one (ds_set (i := 2) nd rfl (Or.inl rfl) (de_ixScr (dv 0) de_int))) ds_nil)))
 (ds_cons (ds_set (i := 3) nd rfl (Or.inl rfl) (de_max rfl rfl G.max (da_cons (de_intc rfl G.int_ (da_cons (dv 2) da_nil)) (da_cons (de_intc rfl G.int_ (da_cons (de_op op_sub l_I0 (de_neg de_int) (dv 2)) da_nil)) da_nil))))
 (ds_cons (ds_set (i := 4) nd rfl (Or.inl rfl) (de_op op_mod l_I (de_intc rfl G.int_ (da_cons (de_op op_mul l_I (de_op op_add l_I0 (de_op op_add l_I0 (de_op op_add l_I0 (de_op op_mod l_I (de_intc rfl G.int_ (da_cons (dv 3) da_nil)) de_int) (de_op op_mul l_I (de_op op_mul l_I de_int (dv 1)) (dv 1))) (de_op op_mul l_I de_int (dv 1))) de_int) de_int) da_nil)) de_int))
 (ds_one (ds_retF (df_lst (da_cons (de_op op_mul l_I (dv 3) (de_intc rfl G.int_ (da_cons (de_and (de_cmp op_ge l_IB (dv 3) (de_op op_pow l_I de_int de_int) (nomark _)) (de_one (de_cmp op_lt l_IB (dv 1) (de_lenScr rfl G.len (da_cons (dv 0) da_nil)) (nomark _)))) da_nil))) (da_cons (dv 4) da_nil)))))))))
abbrev s__law_take : Stmt := top 90
abbrev N__law_take : List Str := ["_law_source", "_law_top", "_law_drawn"]
theorem sc__law_take : FnScope N__law_take ["_law_source", "_law_top"] (defScope s__law_take) := ⟨rfl, rfl, rfl, by decide +kernel, rfl, by decide +kernel, by decide +kernel⟩
def d__law_take : DTS :=
 (dSeq (dIfS (dTst (dOp oGt (dIxO 0 (dC (.int 0))) (dC (.int 0)))) (dSeq (dSet 2 (dOp oMod (dCB dInt (dCons (dIxO 0 (dC (.int 0))) dNil)) (dVar 1)))
 (dSeq (dSetI 0 (dOp oDiv (dIxO 0 (dC (.int 0))) (dVar 1)) (dC (.int 0)))
 (dRet (dVar 2)))) dNext)
 (dSeq (dSetI 0 (dOp oMod (dCB dInt (dCons (dOp oAdd (dOp oMul (dIxO 0 (dC (.int 1))) (dC (.int 39373))) (dC (.int 7))) dNil)) (dC (.int 2147483647))) (dC (.int 1)))
 (dRet (dOp oMod (dCB dInt (dCons (dOp oDiv (dOp oMod (dCB dInt (dCons (dOp oMul (dIxO 0 (dC (.int 1))) (dIxO 0 (dC (.int 1)))) dNil)) (dC (.int 2147483629))) (dC (.int 32))) dNil)) (dVar 1)))))
theorem w__law_take {P : Program} {w : World} {K : PySem.W.Frag} {mg : Str → Option Value} {base : Heap} (G : Glo K w mg) {f : Addr} {cdv : Value} {A : Around} {outer : List PySem.Env} {s : Shared} {H : Hp} {E : XK} (hr : Room 0 (bodyX P w K mg base N__law_take "_law_take" s__law_take f cdv A outer s H E).A) :
  PSs (bodyX P w K mg base N__law_take "_law_take" s__law_take f cdv A outer s H E) (defBody s__law_take) (tDS K (d__law_take)) :=
 have nd := sc__law_take.nd
 (ds_cons (ds_if (dt_cmp op_gt l_IB (de_ixO (L2.pv 0) de_int) de_int (nomark _)) (ds_cons (ds_set (i := 2) nd rfl (Or.inl rfl) (de_op op_mod l_I (de_intc rfl G.int_ (da_cons (de_ixO (L2.pv 0) de_int) da_nil)) (dv 1)))
 (ds_cons (ds_setI (L2.pv 0) de_int (de_op op_fdiv l_I (de_ixO (L2.pv 0) de_int) (dv 1)))
 (ds_one (ds_ret (dv 2))))) ds_nil)
 (ds_cons (ds_setI (L2.pv 0) de_int (de_op op_mod l_I (de_intc rfl G.int_ (da_cons (de_op op_add l_I0 (de_op op_mul l_I (de_ixO (L2.pv 0) de_int) de_int) de_int) da_nil)) de_int))
 (ds_one (ds_ret (de_op op_mod l_I (de_intc rfl G.int_ (da_cons (de_op op_fdiv l_I (de_op op_mod l_I (de_intc rfl G.int_ (da_cons (de_op op_mul l_I (de_ixO (L2.pv 0) de_int) (de_ixO (L2.pv 0) de_int)) da_nil)) de_int) de_int) da_nil)) (dv 1))))))
abbrev s__law_one : Stmt := top 91
abbrev N__law_one : List Str := ["_law_source", "_law_things"]
theorem sc__law_one : FnScope N__law_one ["_law_source", "_law_things"] (defScope s__law_one) := ⟨rfl, rfl, rfl, by decide +kernel, rfl, by decide +kernel, by decide +kernel⟩
def d__law_one (p__law_take : DR1) : DTS :=
 (dRet (dOp dIx (dVar 1) (dCall1 0 p__law_take (dCons (dCB dLen (dCons (dVar 1) dNil)) dNil))))
theorem w__law_one {P : Program} {w : World} {K : PySem.W.Frag} {mg : Str → Option Value} {base : Heap} (G : Glo K w mg) {p__law_take : DR1} (c__law_take : Cl1 P w K mg base "_law_take" ["_law_source", "_law_top"] 1 p__law_take) {f : Addr} {cdv : Value} {A : Around} {outer : List PySem.Env} {s : Shared} {H : Hp} {E : XK} (hr : Room 1 (bodyX P w K mg base N__law_one "_law_one" s__law_one f cdv A outer s H E).A) :
  PSs (bodyX P w K mg base N__law_one "_law_one" s__law_one f cdv A outer s H E) (defBody s__law_one) (tDS K (d__law_one p__law_take)) :=
 have nd := sc__law_one.nd
 (ds_one (ds_ret (de_ix (dv 1) (de_call1 c__law_take hr (by decide) rfl (L2.pv 0) (da_cons (de_len rfl G.len (da_cons (dv 1) da_nil)) da_nil)))))
abbrev s__law_mixed : Stmt := top 92
abbrev N__law_mixed : List Str := ["_law_source", "_law_things", "_law_left", "_law_found", "_law_turn"]
theorem sc__law_mixed : FnScope N__law_mixed ["_law_source", "_law_things"] (defScope s__law_mixed) := ⟨rfl, rfl, rfl, by decide +kernel, rfl, by decide +kernel, by decide +kernel⟩
def d__law_mixed (p__law_take : DR1) : DTS :=
 (dSeq (dPar 2 3 (sOwn (dListF (dVar 1)) (sOwn (dLstF dNil) sNil)))
 (dSeq (dFor (iR1 (dCons (dCB dLen (dCons (dVar 1) dNil)) dNil)) (gN 4) (dDrop (dApp 3 (dPopAt 2 (dCall1 0 p__law_take (dCons (dLenO 2) dNil))))))
 (dRet (dGive 3))))
theorem w__law_mixed {P : Program} {w : World} {K : PySem.W.Frag} {mg : Str → Option Value} {base : Heap} (G : Glo K w mg) {p__law_take : DR1} (c__law_take : Cl1 P w K mg base "_law_take" ["_law_source", "_law_top"] 1 p__law_take) {f : Addr} {cdv : Value} {A : Around} {outer : List PySem.Env} {s : Shared} {H : Hp} {E : XK} (hr : Room 1 (bodyX P w K mg base N__law_mixed "_law_mixed" s__law_mixed f cdv A outer s H E).A) :
  PSs (bodyX P w K mg base N__law_mixed "_law_mixed" s__law_mixed f cdv A outer s H E) (defBody s__law_mixed) (tDS K (d__law_mixed p__law_take)) :=
 have nd := sc__law_mixed.nd
 (ds_cons (ds_par (i := 2) (j := 3) rfl nd rfl rfl (by decide) rfl rfl (das_own (df_list rfl G.list (dv 1)) (das_own (df_lst da_nil) das_nil)) rfl)
 (ds_cons (ds_for PassesOwn.never rfl (di_range1 rfl G.range (da_cons (de_len rfl G.len (da_cons (dv 1) da_nil)) da_nil)) (dg_name (i := 4) nd rfl (Or.inl rfl)) (ds_one (ds_expr (de_app (L2.pv 3) (de_popAt (L2.pv 2) (de_call1 c__law_take hr (by decide) rfl (L2.pv 0) (da_cons (de_lenO (L2.pv 2) rfl G.len) da_nil)))))))
 (ds_one (ds_ret (dgive 3)))))
abbrev s__law_grown : Stmt := top 93
abbrev N__law_grown : List Str := ["_law_source", "_law_rooms", "_law_order", "_law_places", "_law_at", "_law_some", "_law_holder", "_law_x", "_law_y"]
theorem sc__law_grown : FnScope N__law_grown ["_law_source", "_law_rooms"] (defScope s__law_grown) := ⟨rfl, rfl, rfl, by decide +kernel, rfl, by decide +kernel, by decide +kernel⟩
def d__law_grown (p__law_mixed : DR1) (p__law_take : DR1) (p__law_one : DR1) : DTS :=
 (dSeq (dSet 2 (dCall1 0 p__law_mixed (dCons (dPub (dLc (iR1 (dCons (dCB dLen (dCons (dVar 1) dNil)) dNil)) (gN 7) dYes (dVar 7) [7])) dNil)))
 (dSeq (dSetF 3 (dLc (iR1 (dCons (dCB dLen (dCons (dVar 1) dNil)) dNil)) (gN 7) dYes (dC .none) [7]))
 (dSeq (dFor (iR1 (dCons (dCB dLen (dCons (dVar 2) dNil)) dNil)) (gN 4) (dSeq (dSet 5 (dPub (dLc (iL (dSlL (dVar 2) dNoP (dPart (dVar 4)))) (gN 8) (dTst (dOp oGt (dOp dIx (dVar 1) (dVar 8)) (dC (.int 0)))) (dVar 8) [8])))
 (dIfS (dAnd (dTst (dOp dNe (dVar 5) (dLst dNil))) (dTst (dOp oGt (dCall1 0 p__law_take (dCons (dC (.int 4)) dNil)) (dC (.int 0))))) (dSeq (dSet 6 (dCall1 0 p__law_one (dCons (dVar 5) dNil)))
 (dSetI 3 (dTup (dCons (dVar 6) (dCons (dCall1 0 p__law_take (dCons (dOp dIx (dVar 1) (dVar 6)) dNil)) dNil))) (dOp dIx (dVar 2) (dVar 4)))) dNext)))
 (dRet (dTupO 3)))))
theorem w__law_grown {P : Program} {w : World} {K : PySem.W.Frag} {mg : Str → Option Value} {base : Heap} (G : Glo K w mg) {p__law_mixed : DR1} (c__law_mixed : Cl1 P w K mg base "_law_mixed" ["_law_source", "_law_things"] 2 p__law_mixed) {p__law_take : DR1} (c__law_take : Cl1 P w K mg base "_law_take" ["_law_source", "_law_top"] 1 p__law_take) {p__law_one : DR1} (c__law_one : Cl1 P w K mg base "_law_one" ["_law_source", "_law_things"] 2 p__law_one) {f : Addr} {cdv : Value} {A : Around} {outer : List PySem.Env} {s : Shared} {H : Hp} {E : XK} (hr : Room 2 (bodyX P w K mg base N__law_grown "_law_grown" s__law_grown f cdv A outer s H E).A) :
  PSs (bodyX P w K mg base N__law_grown "_law_grown" s__law_grown f cdv A outer s H E) (defBody s__law_grown) (tDS K (d__law_grown p__law_mixed p__law_take p__law_one)) :=
 have nd := sc__law_grown.nd
 (ds_cons (ds_set (i := 2) nd rfl (Or.inl rfl) (de_call1 c__law_mixed hr (by decide) rfl (L2.pv 0) (da_cons (de_lc (own := [("_law_x", 7)]) rfl nd (di_range1 rfl G.range (da_cons (de_len rfl G.len (da_cons (dv 1) da_nil)) da_nil)) (blkOk_by (N := N__law_grown) (sc := (defScope s__law_grown)) (by decide +kernel)) (fun _ _ _ _ _ => (dg_name (i := 7) nd rfl (Or.inl rfl))) (fun _ _ _ _ _ => dts_nil) (fun _ _ _ _ _ => (dv 7))) da_nil)))
 (ds_cons (ds_setLcF (i := 3) (own := [("_law_x", 7)]) rfl nd rfl rfl (sw_true rfl rfl rfl (by decide +kernel)) (di_range1 rfl G.range (da_cons (de_len rfl G.len (da_cons (dv 1) da_nil)) da_nil)) (blkOk_by (N := N__law_grown) (sc := (defScope s__law_grown)) (by decide +kernel)) (fun _ _ _ _ _ => (dg_name (i := 7) nd rfl (Or.inl rfl))) (fun _ _ _ _ _ => dts_nil) (fun _ _ _ _ _ => de_non))
 (ds_cons (ds_for PassesOwn.never rfl (di_range1 rfl G.range (da_cons (de_len rfl G.len (da_cons (dv 2) da_nil)) da_nil)) (dg_name (i := 4) nd rfl (Or.inl rfl)) (ds_cons (ds_setLc (i := 5) (own := [("_law_y", 8)]) rfl nd rfl rfl (sw_true rfl rfl rfl (by decide +kernel)) (di_lst (de_slL (dv 2) do_none (do_some (dv 4)))) (blkOk_by (N := N__law_grown) (sc := (defScope s__law_grown)) (by decide +kernel)) (fun _ _ _ _ _ => (dg_name (i := 8) nd rfl (Or.inl rfl))) (fun _ _ _ _ _ => (dts_one (dt_cmp op_gt l_IB (de_ix (dv 1) (dv 8)) de_int (nomark _)))) (fun _ _ _ _ _ => (dv 8)))
 (ds_one (ds_if (PW.pt (dw_and (dt_cmp (op_neD hr.units) l_ne (dv 5) (de_lst da_nil) (nomark _)) (dw_and1 (dt_cmp op_gt l_IB (de_call1 c__law_take hr (by decide) rfl (L2.pv 0) (da_cons de_int da_nil)) de_int (nomark _))))) (ds_cons (ds_set (i := 6) nd rfl (Or.inl rfl) (de_call1 c__law_one hr (by decide) rfl (L2.pv 0) (da_cons (dv 5) da_nil)))
 (ds_one (ds_setI (L2.pv 3) (de_ix (dv 2) (dv 4)) (de_tup (da_cons (dv 6) (da_cons (de_call1 c__law_take hr (by decide) rfl (L2.pv 0) (da_cons (de_ix (dv 1) (dv 6)) da_nil)) da_nil)))))) ds_nil))))
 (ds_one (ds_ret (de_tupO (L2.pv 3) rfl G.tuple_))))))
abbrev s__law_saying : Stmt := top 94
abbrev N__law_saying : List Str := ["_law_source", "_law_rooms", "_law_forest", "_law_x", "_law_y", "_law_own", "_law_is_kept", "_law_lot", "_law_standing_here", "_law_share"]
theorem sc__law_saying : FnScope N__law_saying ["_law_source", "_law_rooms", "_law_forest"] (defScope s__law_saying) := ⟨rfl, rfl, rfl, by decide +kernel, rfl, by decide +kernel, by decide +kernel⟩
def d__law_saying (p__law_take : DR1) (p__law_standing : DRn) (p__law_every : DRn) : DTS :=
 (dSeq (dSet 3 (dCall1 0 p__law_take (dCons (dCB dLen (dCons (dVar 1) dNil)) dNil)))
 (dSeq (dSet 4 (dOp oMod (dCB dInt (dCons (dOp oAdd (dOp oAdd (dVar 3) (dC (.int 1))) (dCall1 0 p__law_take (dCons (dOp oSub (dCB dLen (dCons (dVar 1) dNil)) (dC (.int 1))) dNil))) dNil)) (dCB dLen (dCons (dVar 1) dNil))))
 (dSeq (dPar3 5 6 7 (sDat (dCB p__law_standing (dCons (dVar 2) (dCons (dVar 3) (dCons (dVar 4) dNil)))) (sDat (dOp oGt (dCall1 0 p__law_take (dCons (dC (.int 12)) dNil)) (dC (.int 0))) (sOwn (dLstF dNil) sNil))))
 (dSeq (dFor (iL (dCB p__law_every (dCons (dVar 1) (dCons (dVar 3) (dCons (dVar 4) dNil))))) (gN 8) (dSeq (dSet 9 (dIf (dTst (dOp dEq (dOp dIx (dVar 8) (dC (.int 0))) (dC (.str "apart")))) (dC (.int 6)) (dC (.int 2))))
 (dIfS (dOr (dTst (dOp dEq (dCall1 0 p__law_take (dCons (dVar 9) dNil)) (dC (.int 0)))) (dAnd (dTst (dVar 6)) (dTst (dOp dEq (dVar 8) (dVar 5))))) (dDrop (dApp 7 (dVar 8))) dNext)))
 (dRet (dTup (dCons (dVar 3) (dCons (dVar 4) (dCons (dTupO 7) dNil)))))))))
theorem w__law_saying {P : Program} {w : World} {K : PySem.W.Frag} {mg : Str → Option Value} {base : Heap} (G : Glo K w mg) {p__law_take : DR1} (c__law_take : Cl1 P w K mg base "_law_take" ["_law_source", "_law_top"] 1 p__law_take) {p__law_standing : DRn} (c__law_standing : Cl P w K mg base "_law_standing" ["_law_forest", "_law_x", "_law_y"] 2 p__law_standing) {p__law_every : DRn} (c__law_every : Cl P w K mg base "_law_every" ["_law_rooms", "_law_x", "_law_y"] 1 p__law_every) {f : Addr} {cdv : Value} {A : Around} {outer : List PySem.Env} {s : Shared} {H : Hp} {E : XK} (hr : Room 2 (bodyX P w K mg base N__law_saying "_law_saying" s__law_saying f cdv A outer s H E).A) :
  PSs (bodyX P w K mg base N__law_saying "_law_saying" s__law_saying f cdv A outer s H E) (defBody s__law_saying) (tDS K (d__law_saying p__law_take p__law_standing p__law_every)) :=
 have nd := sc__law_saying.nd
 (ds_cons (ds_set (i := 3) nd rfl (Or.inl rfl) (de_call1 c__law_take hr (by decide) rfl (L2.pv 0) (da_cons (de_len rfl G.len (da_cons (dv 1) da_nil)) da_nil)))
 (ds_cons (ds_set (i := 4) nd rfl (Or.inl rfl) (de_op op_mod l_I (de_intc rfl G.int_ (da_cons (de_op op_add l_I0 (de_op op_add l_I0 (dv 3) de_int) (de_call1 c__law_take hr (by decide) rfl (L2.pv 0) (da_cons (de_op op_sub l_I0 (de_len rfl G.len (da_cons (dv 1) da_nil)) de_int) da_nil))) da_nil)) (de_len rfl G.len (da_cons (dv 1) da_nil))))
 (ds_cons (ds_par3 (i := 5) (j := 6) (l := 7) rfl nd rfl rfl rfl (by decide) (by decide) (by decide) rfl rfl rfl (das_dat (de_call c__law_standing hr (by decide) rfl (da_cons (dv 2) (da_cons (dv 3) (da_cons (dv 4) da_nil)))) (das_dat (de_cmp op_gt l_IB (de_call1 c__law_take hr (by decide) rfl (L2.pv 0) (da_cons de_int da_nil)) de_int (nomark _)) (das_own (df_lst da_nil) das_nil))) rfl)
 (ds_cons (ds_for PassesOwn.never rfl (di_lst (de_call c__law_every hr (by decide) rfl (da_cons (dv 1) (da_cons (dv 3) (da_cons (dv 4) da_nil))))) (dg_name (i := 8) nd rfl (Or.inl rfl)) (ds_cons (ds_set (i := 9) nd rfl (Or.inl rfl) (de_if (dt_cmp (op_eqD hr.units) l_eq (de_ix (dv 8) de_int) de_str (nomark _)) de_int de_int))
 (ds_one (ds_if (PW.pt (dw_or (dt_cmp (op_eqD hr.units) l_eq (de_call1 c__law_take hr (by decide) rfl (L2.pv 0) (da_cons (dv 9) da_nil)) de_int (nomark _)) (dw_or1 (PW.pt (dw_and (dt_val (dv 6)) (dw_and1 (dt_cmp (op_eqD hr.units) l_eq (dv 8) (dv 5) (nomark _)))))))) (ds_one (ds_expr (de_app (L2.pv 7) (dv 8)))) ds_nil))))
 (ds_one (ds_ret (de_tup (da_cons (dv 3) (da_cons (dv 4) (da_cons (de_tupO (L2.pv 7) rfl G.tuple_) da_nil))))))))))
abbrev s__law_climb : Stmt := top 95
abbrev N__law_climb : List Str := ["_law_forest", "_law_x", "_law_found", "_law_here", "_law_turn"]
theorem sc__law_climb : FnScope N__law_climb ["_law_forest", "_law_x"] (defScope s__law_climb) := ⟨rfl, rfl, rfl, by decide +kernel, rfl, by decide +kernel, by decide +kernel⟩
def d__law_climb : DTS :=
 (dSeq (dPar 2 3 (sOwn (dLstF dNil) (sDat (dOp dIx (dVar 0) (dVar 1)) sNil)))
 (dSeq (dFor (iR1 (dCons (dCB dLen (dCons (dVar 0) dNil)) dNil)) (gN 4) (dSeq (dIfS (dTst (dOp dIsN (dVar 3) (dC .none))) dBreak dNext)
 (dSeq (dDrop (dApp 2 (dVar 3)))
 (dSet 3 (dOp dIx (dVar 0) (dOp dIx (dVar 3) (dC (.int 0))))))))
 (dRet (dGive 2))))
theorem w__law_climb {P : Program} {w : World} {K : PySem.W.Frag} {mg : Str → Option Value} {base : Heap} (G : Glo K w mg) {f : Addr} {cdv : Value} {A : Around} {outer : List PySem.Env} {s : Shared} {H : Hp} {E : XK} (hr : Room 0 (bodyX P w K mg base N__law_climb "_law_climb" s__law_climb f cdv A outer s H E).A) :
  PSs (bodyX P w K mg base N__law_climb "_law_climb" s__law_climb f cdv A outer s H E) (defBody s__law_climb) (tDS K (d__law_climb)) :=
 have nd := sc__law_climb.nd
 (ds_cons (ds_par (i := 2) (j := 3) rfl nd rfl rfl (by decide) rfl rfl (das_own (df_lst da_nil) (das_dat (de_ix (dv 0) (dv 1)) das_nil)) rfl)
 (ds_cons (ds_for PassesOwn.never rfl (di_range1 rfl G.range (da_cons (de_len rfl G.len (da_cons (dv 0) da_nil)) da_nil)) (dg_name (i := 4) nd rfl (Or.inl rfl)) (ds_cons (ds_if (dt_cmp op_isN l_isN (dv 3) de_non (nomark _)) (ds_one ds_break) ds_nil)
 (ds_cons (ds_expr (de_app (L2.pv 2) (dv 3)))
 (ds_one (ds_set (i := 3) nd rfl (Or.inl rfl) (de_ix (dv 0) (de_ix (dv 3) de_int)))))))
 (ds_one (ds_ret (dgive 2)))))
abbrev s__law_standing : Stmt := top 96
abbrev N__law_standing : List Str := ["_law_forest", "_law_x", "_law_y", "_law_holder", "_law_room"]
theorem sc__law_standing : FnScope N__law_standing ["_law_forest", "_law_x", "_law_y"] (defScope s__law_standing) := ⟨rfl, rfl, rfl, by decide +kernel, rfl, by decide +kernel, by decide +kernel⟩
def d__law_standing (p__law_climb : DRn) : DTS :=
 (dSeq (dFor (iL (dCB p__law_climb (dCons (dVar 0) (dCons (dVar 1) dNil)))) (gT 2 (gsC (gN 3) (gsC (gN 4) gs0))) (dIfS (dTst (dOp dEq (dVar 3) (dVar 2))) (dRet (dTup (dCons (dC (.str "in")) (dCons (dVar 4) dNil)))) dNext))
 (dSeq (dFor (iL (dCB p__law_climb (dCons (dVar 0) (dCons (dVar 2) dNil)))) (gT 2 (gsC (gN 3) (gsC (gN 4) gs0))) (dIfS (dTst (dOp dEq (dVar 3) (dVar 1))) (dRet (dTup (dCons (dC (.str "around")) (dCons (dVar 4) dNil)))) dNext))
 (dRet (dTup (dCons (dC (.str "apart")) (dCons (dC (.int 0)) dNil))))))
theorem w__law_standing {P : Program} {w : World} {K : PySem.W.Frag} {mg : Str → Option Value} {base : Heap} (G : Glo K w mg) {p__law_climb : DRn} (c__law_climb : Cl P w K mg base "_law_climb" ["_law_forest", "_law_x"] 1 p__law_climb) {f : Addr} {cdv : Value} {A : Around} {outer : List PySem.Env} {s : Shared} {H : Hp} {E : XK} (hr : Room 1 (bodyX P w K mg base N__law_standing "_law_standing" s__law_standing f cdv A outer s H E).A) :
  PSs (bodyX P w K mg base N__law_standing "_law_standing" s__law_standing f cdv A outer s H E) (defBody s__law_standing) (tDS K (d__law_standing p__law_climb)) :=
 have nd := sc__law_standing.nd
 (ds_cons (ds_for PassesOwn.never rfl (di_lst (de_call c__law_climb hr (by decide) rfl (da_cons (dv 0) (da_cons (dv 1) da_nil)))) (dg_tup rfl (dgs_cons (dg_name (i := 3) nd rfl (Or.inl rfl)) (dgs_cons (dg_name (i := 4) nd rfl (Or.inl rfl)) dgs_nil))) (ds_one (ds_if (dt_cmp (op_eqD hr.units) l_eq (dv 3) (dv 2) (nomark _)) (ds_one (ds_ret (de_tup (da_cons de_str (da_cons (dv 4) da_nil))))) ds_nil)))
 (ds_cons (ds_for PassesOwn.never rfl (di_lst (de_call c__law_climb hr (by decide) rfl (da_cons (dv 0) (da_cons (dv 2) da_nil)))) (dg_tup rfl (dgs_cons (dg_name (i := 3) nd rfl (Or.inl rfl)) (dgs_cons (dg_name (i := 4) nd rfl (Or.inl rfl)) dgs_nil))) (ds_one (ds_if (dt_cmp (op_eqD hr.units) l_eq (dv 3) (dv 1) (nomark _)) (ds_one (ds_ret (de_tup (da_cons de_str (da_cons (dv 4) da_nil))))) ds_nil)))
 (ds_one (ds_ret (de_tup (da_cons de_str (da_cons de_int da_nil)))))))
abbrev s__law_turned : Stmt := top 97
abbrev N__law_turned : List Str := ["_law_standing_here"]
theorem sc__law_turned : FnScope N__law_turned ["_law_standing_here"] (defScope s__law_turned) := ⟨rfl, rfl, rfl, by decide +kernel, rfl, by decide +kernel, by decide +kernel⟩
def d__law_turned : DTS :=
 (dRet (dTup (dCons (dTab [("in", "around"), ("around", "in"), ("apart", "apart")] (dOp dIx (dVar 0) (dC (.int 0)))) (dCons (dOp dIx (dVar 0) (dC (.int 1))) dNil))))
theorem w__law_turned {P : Program} {w : World} {K : PySem.W.Frag} {mg : Str → Option Value} {base : Heap} (G : Glo K w mg) {f : Addr} {cdv : Value} {A : Around} {outer : List PySem.Env} {s : Shared} {H : Hp} {E : XK} (hr : Room 0 (bodyX P w K mg base N__law_turned "_law_turned" s__law_turned f cdv A outer s H E).A) :
  PSs (bodyX P w K mg base N__law_turned "_law_turned" s__law_turned f cdv A outer s H E) (defBody s__law_turned) (tDS K (d__law_turned)) :=
 have nd := sc__law_turned.nd
 (ds_one (ds_ret (de_tup (da_cons (de_tab3 (hu1 hr) (de_ix (dv 0) de_int) (by decide +kernel)) (da_cons (de_ix (dv 0) de_int) da_nil)))))
abbrev s__law_every : Stmt := top 98
abbrev N__law_every : List Str := ["_law_rooms", "_law_x", "_law_y", "_law_inner", "_law_outer", "_law_j", "_law_i"]
theorem sc__law_every : FnScope N__law_every ["_law_rooms", "_law_x", "_law_y"] (defScope s__law_every) := ⟨rfl, rfl, rfl, by decide +kernel, rfl, by decide +kernel, by decide +kernel⟩
def d__law_every : DTS :=
 (dSeq (dPar 3 4 (sDat (dPub (dLc (iR1 (dCons (dOp dIx (dVar 0) (dVar 2)) dNil)) (gN 5) dYes (dTup (dCons (dC (.str "in")) (dCons (dVar 5) dNil))) [5])) (sDat (dPub (dLc (iR1 (dCons (dOp dIx (dVar 0) (dVar 1)) dNil)) (gN 6) dYes (dTup (dCons (dC (.str "around")) (dCons (dVar 6) dNil))) [6])) sNil)))
 (dRet (dOp dCatL (dOp dCatL (dLst (dCons (dTup (dCons (dC (.str "apart")) (dCons (dC (.int 0)) dNil))) dNil)) (dVar 3)) (dVar 4))))
theorem w__law_every {P : Program} {w : World} {K : PySem.W.Frag} {mg : Str → Option Value} {base : Heap} (G : Glo K w mg) {f : Addr} {cdv : Value} {A : Around} {outer : List PySem.Env} {s : Shared} {H : Hp} {E : XK} (hr : Room 0 (bodyX P w K mg base N__law_every "_law_every" s__law_every f cdv A outer s H E).A) :
  PSs (bodyX P w K mg base N__law_every "_law_every" s__law_every f cdv A outer s H E) (defBody s__law_every) (tDS K (d__law_every)) :=
 have nd := sc__law_every.nd
 (ds_cons (ds_par (i := 3) (j := 4) rfl nd rfl rfl (by decide) rfl rfl (das_dat (de_lc (own := [("_law_j", 5)]) rfl nd (di_range1 rfl G.range (da_cons (de_ix (dv 0) (dv 2)) da_nil)) (blkOk_by (N := N__law_every) (sc := (defScope s__law_every)) (by decide +kernel)) (fun _ _ _ _ _ => (dg_name (i := 5) nd rfl (Or.inl rfl))) (fun _ _ _ _ _ => dts_nil) (fun _ _ _ _ _ => (de_tup (da_cons de_str (da_cons (dv 5) da_nil))))) (das_dat (de_lc (own := [("_law_i", 6)]) rfl nd (di_range1 rfl G.range (da_cons (de_ix (dv 0) (dv 1)) da_nil)) (blkOk_by (N := N__law_every) (sc := (defScope s__law_every)) (by decide +kernel)) (fun _ _ _ _ _ => (dg_name (i := 6) nd rfl (Or.inl rfl))) (fun _ _ _ _ _ => dts_nil) (fun _ _ _ _ _ => (de_tup (da_cons de_str (da_cons (dv 6) da_nil))))) das_nil)) rfl)
 (ds_one (ds_ret (de_op op_cat l_catL (de_op op_cat l_catL (de_lst (da_cons (de_tup (da_cons de_str (da_cons de_int da_nil))) da_nil)) (dv 3)) (dv 4)))))
abbrev s__law_table : Stmt := top 99
abbrev N__law_table : List Str := ["_law_rooms", "_law_sayings", "_law_table_here", "_law_x", "_law_y", "_law_lot", "_law_back", "_law_standing_here"]
theorem sc__law_table : FnScope N__law_table ["_law_rooms", "_law_sayings"] (defScope s__law_table) := ⟨rfl, rfl, rfl, by decide +kernel, rfl, by decide +kernel, by decide +kernel⟩
def d__law_table (p__law_every : DRn) (p__law_turned : DRn) : DTS :=
 (dSeq (dSetF 2 dNewT)
 (dSeq (dFor (iR1 (dCons (dCB dLen (dCons (dVar 0) dNil)) dNil)) (gN 3) (dFor (iR1 (dCons (dCB dLen (dCons (dVar 0) dNil)) dNil)) (gN 4) (dIfS (dTst (dOp dNe (dVar 3) (dVar 4))) (dPutTO 2 (dCB p__law_every (dCons (dVar 0) (dCons (dVar 3) (dCons (dVar 4) dNil)))) (dCons (dVar 3) (dCons (dVar 4) dNil))) dNext)))
 (dSeq (dFor (iL (dVar 1)) (gT 3 (gsC (gN 3) (gsC (gN 4) (gsC (gN 5) gs0)))) (dSeq (dSet 6 (dPub (dLc (iT (dVar 5)) (gN 7) dYes (dCB p__law_turned (dCons (dVar 7) dNil)) [7])))
 (dSeq (dPutTO 2 (dPub (dLc (iL (dGetTO 2 (dCons (dVar 3) (dCons (dVar 4) dNil)))) (gN 7) (dTst (dOp dIn (dVar 7) (dVar 5))) (dVar 7) [7])) (dCons (dVar 3) (dCons (dVar 4) dNil)))
 (dPutTO 2 (dPub (dLc (iL (dGetTO 2 (dCons (dVar 4) (dCons (dVar 3) dNil)))) (gN 7) (dTst (dOp dIn (dVar 7) (dVar 6))) (dVar 7) [7])) (dCons (dVar 4) (dCons (dVar 3) dNil))))))
 (dRet (dGive 2)))))
theorem w__law_table {P : Program} {w : World} {K : PySem.W.Frag} {mg : Str → Option Value} {base : Heap} (G : Glo K w mg) {p__law_every : DRn} (c__law_every : Cl P w K mg base "_law_every" ["_law_rooms", "_law_x", "_law_y"] 1 p__law_every) {p__law_turned : DRn} (c__law_turned : Cl P w K mg base "_law_turned" ["_law_standing_here"] 1 p__law_turned) {f : Addr} {cdv : Value} {A : Around} {outer : List PySem.Env} {s : Shared} {H : Hp} {E : XK} (hr : Room 1 (bodyX P w K mg base N__law_table "_law_table" s__law_table f cdv A outer s H E).A) :
  PSs (bodyX P w K mg base N__law_table "_law_table" s__law_table f cdv A outer s H E) (defBody s__law_table) (tDS K (d__law_table p__law_every p__law_turned)) :=
 have nd := sc__law_table.nd
 (ds_cons (ds_setF (i := 2) nd rfl (Or.inl rfl) df_newT)
 (ds_cons (ds_for PassesOwn.never rfl (di_range1 rfl G.range (da_cons (de_len rfl G.len (da_cons (dv 0) da_nil)) da_nil)) (dg_name (i := 3) nd rfl (Or.inl rfl)) (ds_one (ds_for PassesOwn.never rfl (di_range1 rfl G.range (da_cons (de_len rfl G.len (da_cons (dv 0) da_nil)) da_nil)) (dg_name (i := 4) nd rfl (Or.inl rfl)) (ds_one (ds_if (dt_cmp (op_neD hr.units) l_ne (dv 3) (dv 4) (nomark _)) (ds_one (ds_putTO (hu1 hr) (L2.pv 2) (da_cons (dv 3) (da_cons (dv 4) da_nil)) (de_call c__law_every hr (by decide) rfl (da_cons (dv 0) (da_cons (dv 3) (da_cons (dv 4) da_nil)))))) ds_nil)))))
 (ds_cons (ds_for PassesOwn.never rfl (di_lst (dv 1)) (dg_tup rfl (dgs_cons (dg_name (i := 3) nd rfl (Or.inl rfl)) (dgs_cons (dg_name (i := 4) nd rfl (Or.inl rfl)) (dgs_cons (dg_name (i := 5) nd rfl (Or.inr rfl)) dgs_nil)))) (ds_cons (ds_set (i := 6) nd rfl (Or.inr rfl) (de_lc (own := [("_law_standing_here", 7)]) rfl nd (di_tup (dv 5)) (blkOk_by (N := N__law_table) (sc := (defScope s__law_table)) (by decide +kernel)) (fun _ _ _ _ _ => (dg_name (i := 7) nd rfl (Or.inl rfl))) (fun _ _ _ _ _ => dts_nil) (fun _ _ _ _ _ => (de_call c__law_turned hr (by decide) rfl (da_cons (dv 7) da_nil)))))
 (ds_cons (ds_putTO (hu1 hr) (L2.pv 2) (da_cons (dv 3) (da_cons (dv 4) da_nil)) (de_lc (own := [("_law_standing_here", 7)]) rfl nd (di_lst (de_getTO (hu1 hr) (L2.pv 2) (da_cons (dv 3) (da_cons (dv 4) da_nil)))) (blkOk_by (N := N__law_table) (sc := (defScope s__law_table)) (by decide +kernel)) (fun _ _ _ _ _ => (dg_name (i := 7) nd rfl (Or.inl rfl))) (fun _ _ _ _ _ => (dts_one (dt_cmp (op_inS (hu65 hr)) l_in (dv 7) (dv 5) rfl))) (fun _ _ _ _ _ => (dv 7))))
 (ds_one (ds_putTO (hu1 hr) (L2.pv 2) (da_cons (dv 4) (da_cons (dv 3) da_nil)) (de_lc (own := [("_law_standing_here", 7)]) rfl nd (di_lst (de_getTO (hu1 hr) (L2.pv 2) (da_cons (dv 4) (da_cons (dv 3) da_nil)))) (blkOk_by (N := N__law_table) (sc := (defScope s__law_table)) (by decide +kernel)) (fun _ _ _ _ _ => (dg_name (i := 7) nd rfl (Or.inl rfl))) (fun _ _ _ _ _ => (dts_one (dt_cmp (op_inS (hu65 hr)) l_in (dv 7) (dv 6) rfl))) (fun _ _ _ _ _ => (dv 7))))))))
 (ds_one (ds_ret (dgive 2))))))
abbrev s__law_kept : Stmt := top 100
abbrev N__law_kept : List Str := ["_law_table_here", "_law_forest", "_law_x", "_law_y"]
theorem sc__law_kept : FnScope N__law_kept ["_law_table_here", "_law_forest"] (defScope s__law_kept) := ⟨rfl, rfl, rfl, by decide +kernel, rfl, by decide +kernel, by decide +kernel⟩
def d__law_kept (p__law_standing : DRn) : DTS :=
 (dSeq (dFor (iR1 (dCons (dCB dLen (dCons (dVar 1) dNil)) dNil)) (gN 2) (dFor (iR1 (dCons (dVar 2) dNil)) (gN 3) (dIfS (dTst (dOp dNotIn (dCB p__law_standing (dCons (dVar 1) (dCons (dVar 2) (dCons (dVar 3) dNil)))) (dGetT (dVar 0) (dCons (dVar 2) (dCons (dVar 3) dNil))))) (dRet (dC (.bool false))) dNext)))
 (dRet (dC (.bool true))))
theorem w__law_kept {P : Program} {w : World} {K : PySem.W.Frag} {mg : Str → Option Value} {base : Heap} (G : Glo K w mg) {p__law_standing : DRn} (c__law_standing : Cl P w K mg base "_law_standing" ["_law_forest", "_law_x", "_law_y"] 2 p__law_standing) {f : Addr} {cdv : Value} {A : Around} {outer : List PySem.Env} {s : Shared} {H : Hp} {E : XK} (hr : Room 2 (bodyX P w K mg base N__law_kept "_law_kept" s__law_kept f cdv A outer s H E).A) :
  PSs (bodyX P w K mg base N__law_kept "_law_kept" s__law_kept f cdv A outer s H E) (defBody s__law_kept) (tDS K (d__law_kept p__law_standing)) :=
 have nd := sc__law_kept.nd
 (ds_cons (ds_for PassesOwn.never rfl (di_range1 rfl G.range (da_cons (de_len rfl G.len (da_cons (dv 1) da_nil)) da_nil)) (dg_name (i := 2) nd rfl (Or.inl rfl)) (ds_one (ds_for PassesOwn.never rfl (di_range1 rfl G.range (da_cons (dv 2) da_nil)) (dg_name (i := 3) nd rfl (Or.inl rfl)) (ds_one (ds_if (dt_cmp (op_notInS (hu65 hr)) l_notIn (de_call c__law_standing hr (by decide) rfl (da_cons (dv 1) (da_cons (dv 2) (da_cons (dv 3) da_nil)))) (de_getT (hu1 hr) (dv 0) (da_cons (dv 2) (da_cons (dv 3) da_nil))) rfl) (ds_one (ds_ret de_bl)) ds_nil)))))
 (ds_one (ds_ret de_bl)))
abbrev s__law_parts : Stmt := top 101
abbrev N__law_parts : List Str := ["_law_table_here", "_law_lot", "_law_left", "_law_found", "_law_part", "_law_at", "_law_near", "_law_y"]
theorem sc__law_parts : FnScope N__law_parts ["_law_table_here", "_law_lot"] (defScope s__law_parts) := ⟨rfl, rfl, rfl, by decide +kernel, rfl, by decide +kernel, by decide +kernel⟩
def d__law_parts : DTS :=
 (dSeq (dPar 2 3 (sDat (dCB dSorted (dCons (dVar 1) dNil)) (sOwn (dLstF dNil) sNil)))
 (dSeq (dWhile (dTst (dOp dNe (dVar 2) (dLst dNil))) (dSeq (dAsg (dTup (dCons (dLst (dCons (dOp dIx (dVar 2) (dC (.int 0))) dNil)) (dCons (dC (.int 0)) dNil))) (gT 2 (gsC (gN 4) (gsC (gN 5) gs0))))
 (dSeq (dSet 2 (dSlL (dVar 2) (dPart (dC (.int 1))) dNoP))
 (dSeq (dWhile (dTst (dOp oLt (dVar 5) (dCB dLen (dCons (dVar 4) dNil)))) (dSeq (dSet 6 (dPub (dLc (iL (dVar 2)) (gN 7) (dTst (dOp dNotIn (dTup (dCons (dC (.str "apart")) (dCons (dC (.int 0)) dNil))) (dGetT (dVar 0) (dCons (dOp dIx (dVar 4) (dVar 5)) (dCons (dVar 7) dNil))))) (dVar 7) [7])))
 (dSeq (dSet 2 (dPub (dLc (iL (dVar 2)) (gN 7) (dTst (dOp dNotIn (dVar 7) (dVar 6))) (dVar 7) [7])))
 (dAsg (dTup (dCons (dOp dCatL (dVar 4) (dVar 6)) (dCons (dOp oAdd (dVar 5) (dC (.int 1))) dNil))) (gT 2 (gsC (gN 4) (gsC (gN 5) gs0)))))))
 (dDrop (dApp 3 (dCB dTupL (dCons (dCB dSorted (dCons (dVar 4) dNil)) dNil))))))))
 (dRet (dGive 3))))
theorem w__law_parts {P : Program} {w : World} {K : PySem.W.Frag} {mg : Str → Option Value} {base : Heap} (G : Glo K w mg) {f : Addr} {cdv : Value} {A : Around} {outer : List PySem.Env} {s : Shared} {H : Hp} {E : XK} (hr : Room 0 (bodyX P w K mg base N__law_parts "_law_parts" s__law_parts f cdv A outer s H E).A) :
  PSs (bodyX P w K mg base N__law_parts "_law_parts" s__law_parts f cdv A outer s H E) (defBody s__law_parts) (tDS K (d__law_parts)) :=
 have nd := sc__law_parts.nd
 (ds_cons (ds_par (i := 2) (j := 3) rfl nd rfl rfl (by decide) rfl rfl (das_dat (de_sorted rfl G.sorted (da_cons (dv 1) da_nil)) (das_own (df_lst da_nil) das_nil)) rfl)
 (ds_cons (ds_while PassesOwn.never (dt_cmp (op_neD hr.units) l_ne (dv 2) (de_lst da_nil) (nomark _)) (ds_cons (ds_asg (de_tup (da_cons (de_lst (da_cons (de_ix (dv 2) de_int) da_nil)) (da_cons de_int da_nil))) (dg_tup rfl (dgs_cons (dg_name (i := 4) nd rfl (Or.inr rfl)) (dgs_cons (dg_name (i := 5) nd rfl (Or.inr rfl)) dgs_nil))))
 (ds_cons (ds_set (i := 2) nd rfl (Or.inl rfl) (de_slL (dv 2) (do_some de_int) do_none))
 (ds_cons (ds_while PassesOwn.never (dt_cmp op_lt l_IB (dv 5) (de_len rfl G.len (da_cons (dv 4) da_nil)) (nomark _)) (ds_cons (ds_set (i := 6) nd rfl (Or.inr rfl) (de_lc (own := [("_law_y", 7)]) rfl nd (di_lst (dv 2)) (blkOk_by (N := N__law_parts) (sc := (defScope s__law_parts)) (by decide +kernel)) (fun _ _ _ _ _ => (dg_name (i := 7) nd rfl (Or.inl rfl))) (fun _ _ _ _ _ => (dts_one (dt_cmp (op_notInS (hu65 hr)) l_notIn (de_tup (da_cons de_str (da_cons de_int da_nil))) (de_getT (hu1 hr) (dv 0) (da_cons (de_ix (dv 4) (dv 5)) (da_cons (dv 7) da_nil))) rfl))) (fun _ _ _ _ _ => (dv 7))))
 (ds_cons (ds_setLc (i := 2) (own := [("_law_y", 7)]) rfl nd rfl rfl (sw_true rfl rfl rfl (by decide +kernel)) (di_lst (dv 2)) (blkOk_by (N := N__law_parts) (sc := (defScope s__law_parts)) (by decide +kernel)) (fun _ _ _ _ _ => (dg_name (i := 7) nd rfl (Or.inl rfl))) (fun _ _ _ _ _ => (dts_one (dt_cmp (op_notInS (hu65 hr)) l_notIn (dv 7) (dv 6) rfl))) (fun _ _ _ _ _ => (dv 7)))
 (ds_one (ds_asg (de_tup (da_cons (de_op op_cat l_catL (dv 4) (dv 6)) (da_cons (de_op op_add l_I0 (dv 5) de_int) da_nil))) (dg_tup rfl (dgs_cons (dg_name (i := 4) nd rfl (Or.inr rfl)) (dgs_cons (dg_name (i := 5) nd rfl (Or.inr rfl)) dgs_nil))))))))
 (ds_one (ds_expr (de_app (L2.pv 3) (de_tupL rfl G.tuple_ (da_cons (de_sorted rfl G.sorted (da_cons (dv 4) da_nil)) da_nil)))))))))
 (ds_one (ds_ret (dgive 3)))))
abbrev s__law_less : Stmt := top 102
abbrev N__law_less : List Str := ["_law_lot", "_law_t", "_law_y"]
theorem sc__law_less : FnScope N__law_less ["_law_lot", "_law_t"] (defScope s__law_less) := ⟨rfl, rfl, rfl, by decide +kernel, rfl, by decide +kernel, by decide +kernel⟩
def d__law_less : DTS :=
 (dRet (dPub (dLc (iS (dVar 0)) (gN 2) (dTst (dOp dNe (dVar 2) (dVar 1))) (dVar 2) [2])))
theorem w__law_less {P : Program} {w : World} {K : PySem.W.Frag} {mg : Str → Option Value} {base : Heap} (G : Glo K w mg) {f : Addr} {cdv : Value} {A : Around} {outer : List PySem.Env} {s : Shared} {H : Hp} {E : XK} (hr : Room 0 (bodyX P w K mg base N__law_less "_law_less" s__law_less f cdv A outer s H E).A) :
  PSs (bodyX P w K mg base N__law_less "_law_less" s__law_less f cdv A outer s H E) (defBody s__law_less) (tDS K (d__law_less)) :=
 have nd := sc__law_less.nd
 (ds_one (ds_ret (de_lc (own := [("_law_y", 2)]) rfl nd (di_any (dv 0)) (blkOk_by (N := N__law_less) (sc := (defScope s__law_less)) (by decide +kernel)) (fun _ _ _ _ _ => (dg_name (i := 2) nd rfl (Or.inl rfl))) (fun _ _ _ _ _ => (dts_one (dt_cmp (op_neD hr.units) l_ne (dv 2) (dv 1) (nomark _)))) (fun _ _ _ _ _ => (dv 2)))))
abbrev s__law_over : Stmt := top 103
abbrev N__law_over : List Str := ["_law_rooms", "_law_table_here", "_law_t", "_law_part", "_law_i", "_law_y"]
theorem sc__law_over : FnScope N__law_over ["_law_rooms", "_law_table_here", "_law_t", "_law_part"] (defScope s__law_over) := ⟨rfl, rfl, rfl, by decide +kernel, rfl, by decide +kernel, by decide +kernel⟩
def d__law_over : DTS :=
 (dRet (dPub (dLc (iR1 (dCons (dOp dIx (dVar 0) (dVar 2)) dNil)) (gN 4) (dTst (dOp dEq (dPub (dLc (iS (dVar 3)) (gN 5) (dTst (dOp dNotIn (dTup (dCons (dC (.str "around")) (dCons (dVar 4) dNil))) (dGetT (dVar 1) (dCons (dVar 2) (dCons (dVar 5) dNil))))) (dVar 5) [5])) (dLst dNil))) (dVar 4) [4])))
theorem w__law_over {P : Program} {w : World} {K : PySem.W.Frag} {mg : Str → Option Value} {base : Heap} (G : Glo K w mg) {f : Addr} {cdv : Value} {A : Around} {outer : List PySem.Env} {s : Shared} {H : Hp} {E : XK} (hr : Room 0 (bodyX P w K mg base N__law_over "_law_over" s__law_over f cdv A outer s H E).A) :
  PSs (bodyX P w K mg base N__law_over "_law_over" s__law_over f cdv A outer s H E) (defBody s__law_over) (tDS K (d__law_over)) :=
 have nd := sc__law_over.nd
 (ds_one (ds_ret (de_lc (own := [("_law_i", 4)]) rfl nd (di_range1 rfl G.range (da_cons (de_ix (dv 0) (dv 2)) da_nil)) (blkOk_by (N := N__law_over) (sc := (defScope s__law_over)) (by decide +kernel)) (fun _ _ _ _ _ => (dg_name (i := 4) nd rfl (Or.inr rfl))) (fun _ _ _ _ _ => (dts_one (dt_cmp (op_eqD hr.units) l_eq (de_lc (own := [("_law_y", 5)]) rfl nd (di_any (dv 3)) (blkOk_by (N := N__law_over) (sc := (relS { kind := .function, names := [(".0", .local), ("_law_i", .cell), ("_law_part", .free), ("_law_t", .free), ("_law_table_here", .free)], isGenerator := false, isCoroutine := false, more := [] } (defScope s__law_over))) (by decide +kernel)) (fun _ _ _ _ _ => (dg_name (i := 5) nd rfl (Or.inl rfl))) (fun _ _ _ _ _ => (dts_one (dt_cmp (op_notInS (hu65 hr)) l_notIn (de_tup (da_cons de_str (da_cons (dv 4) da_nil))) (de_getT (hu1 hr) (dv 1) (da_cons (dv 2) (da_cons (dv 5) da_nil))) rfl))) (fun _ _ _ _ _ => (dv 5))) (de_lst da_nil) (nomark _)))) (fun _ _ _ _ _ => (dv 4)))))
abbrev s__law_free : Stmt := top 104
abbrev N__law_free : List Str := ["_law_rooms", "_law_table_here", "_law_lot", "_law_found", "_law_t", "_law_part"]
theorem sc__law_free : FnScope N__law_free ["_law_rooms", "_law_table_here", "_law_lot"] (defScope s__law_free) := ⟨rfl, rfl, rfl, by decide +kernel, rfl, by decide +kernel, by decide +kernel⟩
def d__law_free (p__law_parts : DRn) (p__law_less : DRn) (p__law_over : DRn) : DTS :=
 (dSeq (dSetF 3 (dLstF dNil))
 (dSeq (dFor (iS (dVar 2)) (gN 4) (dIfS (dTst (dOp dEq (dPub (dLc (iL (dCB p__law_parts (dCons (dVar 1) (dCons (dCB p__law_less (dCons (dVar 2) (dCons (dVar 4) dNil))) dNil)))) (gN 5) (dTst (dOp dEq (dCB p__law_over (dCons (dVar 0) (dCons (dVar 1) (dCons (dVar 4) (dCons (dVar 5) dNil))))) (dLst dNil))) (dVar 5) [5])) (dLst dNil))) (dDrop (dApp 3 (dVar 4))) dNext))
 (dRet (dGive 3))))
theorem w__law_free {P : Program} {w : World} {K : PySem.W.Frag} {mg : Str → Option Value} {base : Heap} (G : Glo K w mg) {p__law_parts : DRn} (c__law_parts : Cl P w K mg base "_law_parts" ["_law_table_here", "_law_lot"] 1 p__law_parts) {p__law_less : DRn} (c__law_less : Cl P w K mg base "_law_less" ["_law_lot", "_law_t"] 1 p__law_less) {p__law_over : DRn} (c__law_over : Cl P w K mg base "_law_over" ["_law_rooms", "_law_table_here", "_law_t", "_law_part"] 1 p__law_over) {f : Addr} {cdv : Value} {A : Around} {outer : List PySem.Env} {s : Shared} {H : Hp} {E : XK} (hr : Room 1 (bodyX P w K mg base N__law_free "_law_free" s__law_free f cdv A outer s H E).A) :
  PSs (bodyX P w K mg base N__law_free "_law_free" s__law_free f cdv A outer s H E) (defBody s__law_free) (tDS K (d__law_free p__law_parts p__law_less p__law_over)) :=
 have nd := sc__law_free.nd
 (ds_cons (ds_setF (i := 3) nd rfl (Or.inl rfl) (df_lst da_nil))
 (ds_cons (ds_for PassesOwn.never rfl (di_any (dv 2)) (dg_name (i := 4) nd rfl (Or.inr rfl)) (ds_one (ds_if (dt_cmp (op_eqD hr.units) l_eq (de_lc (own := [("_law_part", 5)]) rfl nd (di_lst (de_call c__law_parts hr (by decide) rfl (da_cons (dv 1) (da_cons (de_call c__law_less hr (by decide) rfl (da_cons (dv 2) (da_cons (dv 4) da_nil))) da_nil)))) (blkOk_by (N := N__law_free) (sc := (defScope s__law_free)) (by decide +kernel)) (fun _ _ _ _ _ => (dg_name (i := 5) nd rfl (Or.inl rfl))) (fun _ _ _ _ _ => (dts_one (dt_cmp (op_eqD hr.units) l_eq (de_call c__law_over hr (by decide) rfl (da_cons (dv 0) (da_cons (dv 1) (da_cons (dv 4) (da_cons (dv 5) da_nil))))) (de_lst da_nil) (nomark _)))) (fun _ _ _ _ _ => (dv 5))) (de_lst da_nil) (nomark _)) (ds_one (ds_expr (de_app (L2.pv 3) (dv 4)))) ds_nil)))
 (ds_one (ds_ret (dgive 3)))))
abbrev s__law_beneath : Stmt := top 105
abbrev N__law_beneath : List Str := ["_law_forest", "_law_x", "_law_y", "_law_place"]
theorem sc__law_beneath : FnScope N__law_beneath ["_law_forest", "_law_x"] (defScope s__law_beneath) := ⟨rfl, rfl, rfl, by decide +kernel, rfl, by decide +kernel, by decide +kernel⟩
def d__law_beneath (p__law_climb : DRn) : DTS :=
 (dRet (dPub (dLc (iR1 (dCons (dCB dLen (dCons (dVar 0) dNil)) dNil)) (gN 2) (dOr (dTst (dOp dEq (dVar 2) (dVar 1))) (dTst (dOp dIn (dVar 1) (dPub (dLc (iL (dCB p__law_climb (dCons (dVar 0) (dCons (dVar 2) dNil)))) (gN 3) dYes (dOp dIx (dVar 3) (dC (.int 0))) [3]))))) (dVar 2) [2])))
theorem w__law_beneath {P : Program} {w : World} {K : PySem.W.Frag} {mg : Str → Option Value} {base : Heap} (G : Glo K w mg) {p__law_climb : DRn} (c__law_climb : Cl P w K mg base "_law_climb" ["_law_forest", "_law_x"] 1 p__law_climb) {f : Addr} {cdv : Value} {A : Around} {outer : List PySem.Env} {s : Shared} {H : Hp} {E : XK} (hr : Room 1 (bodyX P w K mg base N__law_beneath "_law_beneath" s__law_beneath f cdv A outer s H E).A) :
  PSs (bodyX P w K mg base N__law_beneath "_law_beneath" s__law_beneath f cdv A outer s H E) (defBody s__law_beneath) (tDS K (d__law_beneath p__law_climb)) :=
 have nd := sc__law_beneath.nd
 (ds_one (ds_ret (de_lc (own := [("_law_y", 2)]) rfl nd (di_range1 rfl G.range (da_cons (de_len rfl G.len (da_cons (dv 0) da_nil)) da_nil)) (blkOk_by (N := N__law_beneath) (sc := (defScope s__law_beneath)) (by decide +kernel)) (fun _ _ _ _ _ => (dg_name (i := 2) nd rfl (Or.inl rfl))) (fun _ _ _ _ _ => (dts_one (PW.pt (dw_or (dt_cmp (op_eqD hr.units) l_eq (dv 2) (dv 1) (nomark _)) (dw_or1 (dt_cmp (op_inS (hu65 hr)) l_in (dv 1) (de_lc (own := [("_law_place", 3)]) rfl nd (di_lst (de_call c__law_climb hr (by decide) rfl (da_cons (dv 0) (da_cons (dv 2) da_nil)))) (blkOk_by (N := N__law_beneath) (sc := (relS { kind := .function, names := [(".0", .local), ("_law_y", .local), ("_law_climb", .globalImplicit), ("_law_forest", .free), ("_law_x", .free)], isGenerator := false, isCoroutine := false, more := [] } (defScope s__law_beneath))) (by decide +kernel)) (fun _ _ _ _ _ => (dg_name (i := 3) nd rfl (Or.inl rfl))) (fun _ _ _ _ _ => dts_nil) (fun _ _ _ _ _ => (de_ix (dv 3) de_int))) rfl)))))) (fun _ _ _ _ _ => (dv 2)))))
abbrev s__law_is_least : Stmt := top 106
abbrev N__law_is_least : List Str := ["_law_rooms", "_law_table_here", "_law_forest", "_law_x"]
theorem sc__law_is_least : FnScope N__law_is_least ["_law_rooms", "_law_table_here", "_law_forest"] (defScope s__law_is_least) := ⟨rfl, rfl, rfl, by decide +kernel, rfl, by decide +kernel, by decide +kernel⟩
def d__law_is_least (p__law_is_forest : DRn) (p__law_kept : DRn) (p__law_parts : DRn) (p__law_beneath : DRn) : DTS :=
 (dSeq (dIfS (dOr (dNot (dTst (dCB p__law_is_forest (dCons (dVar 0) (dCons (dVar 2) dNil))))) (dNot (dTst (dCB p__law_kept (dCons (dVar 1) (dCons (dVar 2) dNil)))))) (dRet (dC (.bool false))) dNext)
 (dRet (dOp dEq (dPub (dLc (iR1 (dCons (dCB dLen (dCons (dVar 2) dNil)) dNil)) (gN 3) (dTst (dOp dNe (dCB dLen (dCons (dCB p__law_parts (dCons (dVar 1) (dCons (dCB p__law_beneath (dCons (dVar 2) (dCons (dVar 3) dNil))) dNil))) dNil)) (dC (.int 1)))) (dVar 3) [3])) (dLst dNil))))
theorem w__law_is_least {P : Program} {w : World} {K : PySem.W.Frag} {mg : Str → Option Value} {base : Heap} (G : Glo K w mg) {p__law_is_forest : DRn} (c__law_is_forest : Cl P w K mg base "_law_is_forest" ["_law_rooms", "_law_forest"] 2 p__law_is_forest) {p__law_kept : DRn} (c__law_kept : Cl P w K mg base "_law_kept" ["_law_table_here", "_law_forest"] 3 p__law_kept) {p__law_parts : DRn} (c__law_parts : Cl P w K mg base "_law_parts" ["_law_table_here", "_law_lot"] 1 p__law_parts) {p__law_beneath : DRn} (c__law_beneath : Cl P w K mg base "_law_beneath" ["_law_forest", "_law_x"] 2 p__law_beneath) {f : Addr} {cdv : Value} {A : Around} {outer : List PySem.Env} {s : Shared} {H : Hp} {E : XK} (hr : Room 3 (bodyX P w K mg base N__law_is_least "_law_is_least" s__law_is_least f cdv A outer s H E).A) :
  PSs (bodyX P w K mg base N__law_is_least "_law_is_least" s__law_is_least f cdv A outer s H E) (defBody s__law_is_least) (tDS K (d__law_is_least p__law_is_forest p__law_kept p__law_parts p__law_beneath)) :=
 have nd := sc__law_is_least.nd
 (ds_cons (ds_if (PW.pt (dw_or (dt_not (dt_val (de_call c__law_is_forest hr (by decide) rfl (da_cons (dv 0) (da_cons (dv 2) da_nil))))) (dw_or1 (dt_not (dt_val (de_call c__law_kept hr (by decide) rfl (da_cons (dv 1) (da_cons (dv 2) da_nil)))))))) (ds_one (ds_ret de_bl)) ds_nil)
 (ds_one (ds_ret (de_cmp (op_eqD hr.units) l_eq (de_lc (own := [("_law_x", 3)]) rfl nd (di_range1 rfl G.range (da_cons (de_len rfl G.len (da_cons (dv 2) da_nil)) da_nil)) (blkOk_by (N := N__law_is_least) (sc := (defScope s__law_is_least)) (by decide +kernel)) (fun _ _ _ _ _ => (dg_name (i := 3) nd rfl (Or.inl rfl))) (fun _ _ _ _ _ => (dts_one (dt_cmp (op_neD hr.units) l_ne (de_len rfl G.len (da_cons (de_call c__law_parts hr (by decide) rfl (da_cons (dv 1) (da_cons (de_call c__law_beneath hr (by decide) rfl (da_cons (dv 2) (da_cons (dv 3) da_nil))) da_nil))) da_nil)) de_int (nomark _)))) (fun _ _ _ _ _ => (dv 3))) (de_lst da_nil) (nomark _)))))
abbrev s__law_part_of : Stmt := top 107
abbrev N__law_part_of : List Str := ["_law_table_here", "_law_lot", "_law_t", "_law_part"]
theorem sc__law_part_of : FnScope N__law_part_of ["_law_table_here", "_law_lot", "_law_t"] (defScope s__law_part_of) := ⟨rfl, rfl, rfl, by decide +kernel, rfl, by decide +kernel, by decide +kernel⟩
def d__law_part_of (p__law_parts : DRn) : DTS :=
 (dRet (dOp dIx (dPub (dLc (iL (dCB p__law_parts (dCons (dVar 0) (dCons (dVar 1) dNil)))) (gN 3) (dTst (dOp dIn (dVar 2) (dVar 3))) (dVar 3) [3])) (dC (.int 0))))
theorem w__law_part_of {P : Program} {w : World} {K : PySem.W.Frag} {mg : Str → Option Value} {base : Heap} (G : Glo K w mg) {p__law_parts : DRn} (c__law_parts : Cl P w K mg base "_law_parts" ["_law_table_here", "_law_lot"] 1 p__law_parts) {f : Addr} {cdv : Value} {A : Around} {outer : List PySem.Env} {s : Shared} {H : Hp} {E : XK} (hr : Room 1 (bodyX P w K mg base N__law_part_of "_law_part_of" s__law_part_of f cdv A outer s H E).A) :
  PSs (bodyX P w K mg base N__law_part_of "_law_part_of" s__law_part_of f cdv A outer s H E) (defBody s__law_part_of) (tDS K (d__law_part_of p__law_parts)) :=
 have nd := sc__law_part_of.nd
 (ds_one (ds_ret (de_ix (de_lc (own := [("_law_part", 3)]) rfl nd (di_lst (de_call c__law_parts hr (by decide) rfl (da_cons (dv 0) (da_cons (dv 1) da_nil)))) (blkOk_by (N := N__law_part_of) (sc := (defScope s__law_part_of)) (by decide +kernel)) (fun _ _ _ _ _ => (dg_name (i := 3) nd rfl (Or.inl rfl))) (fun _ _ _ _ _ => (dts_one (dt_cmp (op_inS (hu65 hr)) l_in (dv 2) (dv 3) rfl))) (fun _ _ _ _ _ => (dv 3))) de_int)))
abbrev s__law_deeds : Stmt := top 108
abbrev N__law_deeds : List Str := ["_law_rooms", "_law_table_here", "_law_forest", "_law_turns", "_law_shifts", "_law_x", "_law_t", "_law_room", "_law_lot", "_law_inner", "_law_over_here", "_law_j"]
theorem sc__law_deeds : FnScope N__law_deeds ["_law_rooms", "_law_table_here", "_law_forest"] (defScope s__law_deeds) := ⟨rfl, rfl, rfl, by decide +kernel, rfl, by decide +kernel, by decide +kernel⟩
def d__law_deeds (p__law_beneath : DRn) (p__law_free : DRn) (p__law_part_of : DRn) (p__law_less : DRn) (p__law_over : DRn) : DTS :=
 (dSeq (dPar 3 4 (sOwn (dLstF dNil) (sOwn (dLstF dNil) sNil)))
 (dSeq (dFor (iR1 (dCons (dCB dLen (dCons (dVar 2) dNil)) dNil)) (gN 5) (dIfS (dTst (dOp dNotN (dOp dIx (dVar 2) (dVar 5)) (dC .none))) (dSeq (dAsg (dOp dIx (dVar 2) (dVar 5)) (gT 2 (gsC (gN 6) (gsC (gN 7) gs0))))
 (dSeq (dSet 8 (dCB p__law_beneath (dCons (dVar 2) (dCons (dVar 6) dNil))))
 (dSeq (dIfS (dTst (dOp dIn (dVar 5) (dCB p__law_free (dCons (dVar 0) (dCons (dVar 1) (dCons (dVar 8) dNil)))))) (dSeq (dSet 9 (dCB p__law_part_of (dCons (dVar 1) (dCons (dCB p__law_less (dCons (dVar 8) (dCons (dVar 5) dNil))) (dCons (dVar 6) dNil)))))
 (dDrop (dExt 3 (dPub (dLc (iL (dCB p__law_over (dCons (dVar 0) (dCons (dVar 1) (dCons (dVar 5) (dCons (dVar 9) dNil)))))) (gN 11) dYes (dTup (dCons (dC (.str "turn")) (dCons (dVar 5) (dCons (dVar 11) dNil)))) [11]))))) dNext)
 (dSeq (dSet 10 (dCB p__law_over (dCons (dVar 0) (dCons (dVar 1) (dCons (dVar 6) (dCons (dCB p__law_beneath (dCons (dVar 2) (dCons (dVar 5) dNil))) dNil))))))
 (dDrop (dExt 4 (dPub (dLc (iL (dVar 10)) (gN 11) (dTst (dOp dNe (dVar 11) (dVar 7))) (dTup (dCons (dC (.str "shift")) (dCons (dVar 5) (dCons (dVar 11) dNil)))) [11])))))))) dNext))
 (dRet (dOp dCatL (dGive 3) (dGive 4)))))
theorem w__law_deeds {P : Program} {w : World} {K : PySem.W.Frag} {mg : Str → Option Value} {base : Heap} (G : Glo K w mg) {p__law_beneath : DRn} (c__law_beneath : Cl P w K mg base "_law_beneath" ["_law_forest", "_law_x"] 2 p__law_beneath) {p__law_free : DRn} (c__law_free : Cl P w K mg base "_law_free" ["_law_rooms", "_law_table_here", "_law_lot"] 2 p__law_free) {p__law_part_of : DRn} (c__law_part_of : Cl P w K mg base "_law_part_of" ["_law_table_here", "_law_lot", "_law_t"] 2 p__law_part_of) {p__law_less : DRn} (c__law_less : Cl P w K mg base "_law_less" ["_law_lot", "_law_t"] 1 p__law_less) {p__law_over : DRn} (c__law_over : Cl P w K mg base "_law_over" ["_law_rooms", "_law_table_here", "_law_t", "_law_part"] 1 p__law_over) {f : Addr} {cdv : Value} {A : Around} {outer : List PySem.Env} {s : Shared} {H : Hp} {E : XK} (hr : Room 2 (bodyX P w K mg base N__law_deeds "_law_deeds" s__law_deeds f cdv A outer s H E).A) :
  PSs (bodyX P w K mg base N__law_deeds "_law_deeds" s__law_deeds f cdv A outer s H E) (defBody s__law_deeds) (tDS K (d__law_deeds p__law_beneath p__law_free p__law_part_of p__law_less p__law_over)) :=
 have nd := sc__law_deeds.nd
 (ds_cons (ds_par (i := 3) (j := 4) rfl nd rfl rfl (by decide) rfl rfl (das_own (df_lst da_nil) (das_own (df_lst da_nil) das_nil)) rfl)
 (ds_cons (ds_for PassesOwn.never rfl (di_range1 rfl G.range (da_cons (de_len rfl G.len (da_cons (dv 2) da_nil)) da_nil)) (dg_name (i := 5) nd rfl (Or.inr rfl)) (ds_one (ds_if (dt_cmp op_notN l_notN (de_ix (dv 2) (dv 5)) de_non (nomark _)) (ds_cons (ds_asg (de_ix (dv 2) (dv 5)) (dg_tup rfl (dgs_cons (dg_name (i := 6) nd rfl (Or.inl rfl)) (dgs_cons (dg_name (i := 7) nd rfl (Or.inr rfl)) dgs_nil))))
 (ds_cons (ds_set (i := 8) nd rfl (Or.inl rfl) (de_call c__law_beneath hr (by decide) rfl (da_cons (dv 2) (da_cons (dv 6) da_nil))))
 (ds_cons (ds_if (dt_cmp (op_inS (hu65 hr)) l_in (dv 5) (de_call c__law_free hr (by decide) rfl (da_cons (dv 0) (da_cons (dv 1) (da_cons (dv 8) da_nil)))) rfl) (ds_cons (ds_set (i := 9) nd rfl (Or.inl rfl) (de_call c__law_part_of hr (by decide) rfl (da_cons (dv 1) (da_cons (de_call c__law_less hr (by decide) rfl (da_cons (dv 8) (da_cons (dv 5) da_nil))) (da_cons (dv 6) da_nil)))))
 (ds_one (ds_expr (de_ext (L2.pv 3) (de_lc (own := [("_law_j", 11)]) rfl nd (di_lst (de_call c__law_over hr (by decide) rfl (da_cons (dv 0) (da_cons (dv 1) (da_cons (dv 5) (da_cons (dv 9) da_nil)))))) (blkOk_by (N := N__law_deeds) (sc := (defScope s__law_deeds)) (by decide +kernel)) (fun _ _ _ _ _ => (dg_name (i := 11) nd rfl (Or.inl rfl))) (fun _ _ _ _ _ => dts_nil) (fun _ _ _ _ _ => (de_tup (da_cons de_str (da_cons (dv 5) (da_cons (dv 11) da_nil)))))))))) ds_nil)
 (ds_cons (ds_set (i := 10) nd rfl (Or.inl rfl) (de_call c__law_over hr (by decide) rfl (da_cons (dv 0) (da_cons (dv 1) (da_cons (dv 6) (da_cons (de_call c__law_beneath hr (by decide) rfl (da_cons (dv 2) (da_cons (dv 5) da_nil))) da_nil))))))
 (ds_one (ds_expr (de_ext (L2.pv 4) (de_lc (own := [("_law_j", 11)]) rfl nd (di_lst (dv 10)) (blkOk_by (N := N__law_deeds) (sc := (defScope s__law_deeds)) (by decide +kernel)) (fun _ _ _ _ _ => (dg_name (i := 11) nd rfl (Or.inl rfl))) (fun _ _ _ _ _ => (dts_one (dt_cmp (op_neD hr.units) l_ne (dv 11) (dv 7) (nomark _)))) (fun _ _ _ _ _ => (de_tup (da_cons de_str (da_cons (dv 5) (da_cons (dv 11) da_nil))))))))))))) ds_nil)))
 (ds_one (ds_ret (de_op op_cat l_catL (dgive 3) (dgive 4))))))
abbrev s__law_hangs : Stmt := top 109
abbrev N__law_hangs : List Str := ["_law_table_here", "_law_forest", "_law_deed", "_law_word", "_law_x", "_law_j", "_law_t", "_law_room", "_law_part", "_law_right", "_law_y"]
theorem sc__law_hangs : FnScope N__law_hangs ["_law_table_here", "_law_forest", "_law_deed"] (defScope s__law_hangs) := ⟨rfl, rfl, rfl, by decide +kernel, rfl, by decide +kernel, by decide +kernel⟩
def d__law_hangs (p__law_part_of : DRn) (p__law_less : DRn) (p__law_beneath : DRn) : DTS :=
 (dSeq (dAsg (dVar 2) (gT 3 (gsC (gN 3) (gsC (gN 4) (gsC (gN 5) gs0)))))
 (dSeq (dAsg (dOp dIx (dVar 1) (dVar 4)) (gT 2 (gsC (gN 6) (gsC (gN 7) gs0))))
 (dSeq (dIfS (dTst (dOp dEq (dVar 3) (dC (.str "shift")))) (dRet (dLst (dCons (dTup (dCons (dVar 4) (dCons (dTup (dCons (dVar 6) (dCons (dVar 5) dNil))) dNil))) dNil))) dNext)
 (dSeq (dSet 8 (dCB p__law_part_of (dCons (dVar 0) (dCons (dCB p__law_less (dCons (dCB p__law_beneath (dCons (dVar 1) (dCons (dVar 6) dNil))) (dCons (dVar 4) dNil))) (dCons (dVar 6) dNil)))))
 (dSeq (dSet 9 (dPub (dLc (iT (dVar 8)) (gN 10) (dAnd (dTst (dOp dNotN (dOp dIx (dVar 1) (dVar 10)) (dC .none))) (dTst (dOp dEq (dOp dIx (dOp dIx (dVar 1) (dVar 10)) (dC (.int 0))) (dVar 4)))) (dVar 10) [10])))
 (dRet (dOp dCatL (dLst (dCons (dTup (dCons (dVar 4) (dCons (dOp dIx (dVar 1) (dVar 6)) dNil))) (dCons (dTup (dCons (dVar 6) (dCons (dTup (dCons (dVar 4) (dCons (dVar 5) dNil))) dNil))) dNil))) (dPub (dLc (iL (dVar 9)) (gN 10) dYes (dTup (dCons (dVar 10) (dCons (dTup (dCons (dVar 6) (dCons (dVar 7) dNil))) dNil))) [10])))))))))
theorem w__law_hangs {P : Program} {w : World} {K : PySem.W.Frag} {mg : Str → Option Value} {base : Heap} (G : Glo K w mg) {p__law_part_of : DRn} (c__law_part_of : Cl P w K mg base "_law_part_of" ["_law_table_here", "_law_lot", "_law_t"] 2 p__law_part_of) {p__law_less : DRn} (c__law_less : Cl P w K mg base "_law_less" ["_law_lot", "_law_t"] 1 p__law_less) {p__law_beneath : DRn} (c__law_beneath : Cl P w K mg base "_law_beneath" ["_law_forest", "_law_x"] 2 p__law_beneath) {f : Addr} {cdv : Value} {A : Around} {outer : List PySem.Env} {s : Shared} {H : Hp} {E : XK} (hr : Room 2 (bodyX P w K mg base N__law_hangs "_law_hangs" s__law_hangs f cdv A outer s H E).A) :
  PSs (bodyX P w K mg base N__law_hangs "_law_hangs" s__law_hangs f cdv A outer s H E) (defBody s__law_hangs) (tDS K (d__law_hangs p__law_part_of p__law_less p__law_beneath)) :=
 have nd := sc__law_hangs.nd
 (ds_cons (ds_asg (dv 2) (dg_tup rfl (dgs_cons (dg_name (i := 3) nd rfl (Or.inl rfl)) (dgs_cons (dg_name (i := 4) nd rfl (Or.inr rfl)) (dgs_cons (dg_name (i := 5) nd rfl (Or.inl rfl)) dgs_nil)))))
 (ds_cons (ds_asg (de_ix (dv 1) (dv 4)) (dg_tup rfl (dgs_cons (dg_name (i := 6) nd rfl (Or.inr rfl)) (dgs_cons (dg_name (i := 7) nd rfl (Or.inr rfl)) dgs_nil))))
 (ds_cons (ds_if (dt_cmp (op_eqD hr.units) l_eq (dv 3) de_str (nomark _)) (ds_one (ds_ret (de_lst (da_cons (de_tup (da_cons (dv 4) (da_cons (de_tup (da_cons (dv 6) (da_cons (dv 5) da_nil))) da_nil))) da_nil)))) ds_nil)
 (ds_cons (ds_set (i := 8) nd rfl (Or.inl rfl) (de_call c__law_part_of hr (by decide) rfl (da_cons (dv 0) (da_cons (de_call c__law_less hr (by decide) rfl (da_cons (de_call c__law_beneath hr (by decide) rfl (da_cons (dv 1) (da_cons (dv 6) da_nil))) (da_cons (dv 4) da_nil))) (da_cons (dv 6) da_nil)))))
 (ds_cons (ds_setLc (i := 9) (own := [("_law_y", 10)]) rfl nd rfl rfl (sw_true rfl rfl rfl (by decide +kernel)) (di_tup (dv 8)) (blkOk_by (N := N__law_hangs) (sc := (defScope s__law_hangs)) (by decide +kernel)) (fun _ _ _ _ _ => (dg_name (i := 10) nd rfl (Or.inl rfl))) (fun _ _ _ _ _ => (dts_one (PW.pt (dw_and (dt_cmp op_notN l_notN (de_ix (dv 1) (dv 10)) de_non (nomark _)) (dw_and1 (dt_cmp (op_eqD hr.units) l_eq (de_ix (de_ix (dv 1) (dv 10)) de_int) (dv 4) (nomark _))))))) (fun _ _ _ _ _ => (dv 10)))
 (ds_one (ds_ret (de_op op_cat l_catL (de_lst (da_cons (de_tup (da_cons (dv 4) (da_cons (de_ix (dv 1) (dv 6)) da_nil))) (da_cons (de_tup (da_cons (dv 6) (da_cons (de_tup (da_cons (dv 4) (da_cons (dv 5) da_nil))) da_nil))) da_nil))) (de_lc (own := [("_law_y", 10)]) rfl nd (di_lst (dv 9)) (blkOk_by (N := N__law_hangs) (sc := (defScope s__law_hangs)) (by decide +kernel)) (fun _ _ _ _ _ => (dg_name (i := 10) nd rfl (Or.inl rfl))) (fun _ _ _ _ _ => dts_nil) (fun _ _ _ _ _ => (de_tup (da_cons (dv 10) (da_cons (de_tup (da_cons (dv 6) (da_cons (dv 7) da_nil))) da_nil)))))))))))))
abbrev s__law_hung : Stmt := top 110
abbrev N__law_hung : List Str := ["_law_forest", "_law_x", "_law_place"]
theorem sc__law_hung : FnScope N__law_hung ["_law_forest", "_law_x", "_law_place"] (defScope s__law_hung) := ⟨rfl, rfl, rfl, by decide +kernel, rfl, by decide +kernel, by decide +kernel⟩
def d__law_hung : DTS :=
 (dRet (dOp dCatT (dOp dCatT (dSlT (dVar 0) dNoP (dPart (dVar 1))) (dTup (dCons (dVar 2) dNil))) (dSlT (dVar 0) (dPart (dOp oAdd (dVar 1) (dC (.int 1)))) dNoP)))
theorem w__law_hung {P : Program} {w : World} {K : PySem.W.Frag} {mg : Str → Option Value} {base : Heap} (G : Glo K w mg) {f : Addr} {cdv : Value} {A : Around} {outer : List PySem.Env} {s : Shared} {H : Hp} {E : XK} (hr : Room 0 (bodyX P w K mg base N__law_hung "_law_hung" s__law_hung f cdv A outer s H E).A) :
  PSs (bodyX P w K mg base N__law_hung "_law_hung" s__law_hung f cdv A outer s H E) (defBody s__law_hung) (tDS K (d__law_hung)) :=
 have nd := sc__law_hung.nd
 (ds_one (ds_ret (de_op op_catA l_catT (de_op op_catA l_catT (de_slT (dv 0) do_none (do_some (dv 1))) (de_tup (da_cons (dv 2) da_nil))) (de_slT (dv 0) (do_some (de_op op_add l_I0 (dv 1) de_int)) do_none))))
abbrev s__law_behind : Stmt := top 111
abbrev N__law_behind : List Str := ["_law_table_here", "_law_forest", "_law_deed", "_law_x", "_law_place"]
theorem sc__law_behind : FnScope N__law_behind ["_law_table_here", "_law_forest", "_law_deed"] (defScope s__law_behind) := ⟨rfl, rfl, rfl, by decide +kernel, rfl, by decide +kernel, by decide +kernel⟩
def d__law_behind (p__law_hangs : DRn) (p__law_hung : DRn) : DTS :=
 (dSeq (dFor (iL (dCB p__law_hangs (dCons (dVar 0) (dCons (dVar 1) (dCons (dVar 2) dNil))))) (gT 2 (gsC (gN 3) (gsC (gN 4) gs0))) (dSet 1 (dCB p__law_hung (dCons (dVar 1) (dCons (dVar 3) (dCons (dVar 4) dNil))))))
 (dRet (dVar 1)))
theorem w__law_behind {P : Program} {w : World} {K : PySem.W.Frag} {mg : Str → Option Value} {base : Heap} (G : Glo K w mg) {p__law_hangs : DRn} (c__law_hangs : Cl P w K mg base "_law_hangs" ["_law_table_here", "_law_forest", "_law_deed"] 3 p__law_hangs) {p__law_hung : DRn} (c__law_hung : Cl P w K mg base "_law_hung" ["_law_forest", "_law_x", "_law_place"] 1 p__law_hung) {f : Addr} {cdv : Value} {A : Around} {outer : List PySem.Env} {s : Shared} {H : Hp} {E : XK} (hr : Room 3 (bodyX P w K mg base N__law_behind "_law_behind" s__law_behind f cdv A outer s H E).A) :
  PSs (bodyX P w K mg base N__law_behind "_law_behind" s__law_behind f cdv A outer s H E) (defBody s__law_behind) (tDS K (d__law_behind p__law_hangs p__law_hung)) :=
 have nd := sc__law_behind.nd
 (ds_cons (ds_for PassesOwn.never rfl (di_lst (de_call c__law_hangs hr (by decide) rfl (da_cons (dv 0) (da_cons (dv 1) (da_cons (dv 2) da_nil))))) (dg_tup rfl (dgs_cons (dg_name (i := 3) nd rfl (Or.inl rfl)) (dgs_cons (dg_name (i := 4) nd rfl (Or.inl rfl)) dgs_nil))) (ds_one (ds_set (i := 1) nd rfl (Or.inl rfl) (de_call c__law_hung hr (by decide) rfl (da_cons (dv 1) (da_cons (dv 3) (da_cons (dv 4) da_nil)))))))
 (ds_one (ds_ret (dv 1))))
abbrev s__law_number : Stmt := top 112
abbrev N__law_number : List Str := ["_law_thing", "_law_most"]
theorem sc__law_number : FnScope N__law_number ["_law_thing", "_law_most"] (defScope s__law_number) := ⟨rfl, rfl, rfl, by decide +kernel, rfl, by decide +kernel, by decide +kernel⟩
def d__law_number : DTS :=
 (dRet (dAndV (dIsi "int" (dVar 0)) (dAndV (dNotV (dIsi "bool" (dVar 0))) (dChain oLe oLt (dC (.int 0)) (dVar 0) (dVar 1)))))
theorem w__law_number {P : Program} {w : World} {K : PySem.W.Frag} {mg : Str → Option Value} {base : Heap} (G : Glo K w mg) {f : Addr} {cdv : Value} {A : Around} {outer : List PySem.Env} {s : Shared} {H : Hp} {E : XK} (hr : Room 0 (bodyX P w K mg base N__law_number "_law_number" s__law_number f cdv A outer s H E).A) :
  PSs (bodyX P w K mg base N__law_number "_law_number" s__law_number f cdv A outer s H E) (defBody s__law_number) (tDS K (d__law_number)) :=
 have nd := sc__law_number.nd
 (ds_one (ds_ret (de_and (de_isi (T := "int") rfl G.isinstance (dv 0) (pe_bltn (v := .ty "int") rfl G.int_ bt_int rfl)) (de_and (de_not (de_isi (T := "bool") rfl G.isinstance (dv 0) (pe_bltn (v := .ty "bool") rfl G.bool_ bt_bool rfl))) (de_one (de_chain op_le l_IB op_lt l_IB de_int (dv 0) (dv 1)))))))
abbrev s__law_is_forest : Stmt := top 113
abbrev N__law_is_forest : List Str := ["_law_rooms", "_law_forest", "_law_x", "_law_place"]
theorem sc__law_is_forest : FnScope N__law_is_forest ["_law_rooms", "_law_forest"] (defScope s__law_is_forest) := ⟨rfl, rfl, rfl, by decide +kernel, rfl, by decide +kernel, by decide +kernel⟩
def d__law_is_forest (p__law_number : DRn) (p__law_climb : DRn) : DTS :=
 (dSeq (dIfS (dOr (dNot (dTst (dIsi "tuple" (dVar 1)))) (dTst (dOp dNe (dCB dLen (dCons (dVar 1) dNil)) (dCB dLen (dCons (dVar 0) dNil))))) (dRet (dC (.bool false))) dNext)
 (dSeq (dFor (iR1 (dCons (dCB dLen (dCons (dVar 1) dNil)) dNil)) (gN 2) (dSeq (dSet 3 (dOp dIx (dVar 1) (dVar 2)))
 (dIfS (dTst (dOp dNotN (dVar 3) (dC .none))) (dSeq (dIfS (dOr (dNot (dTst (dIsi "tuple" (dVar 3)))) (dTst (dOp dNe (dCB dLen (dCons (dVar 3) dNil)) (dC (.int 2))))) (dRet (dC (.bool false))) dNext)
 (dSeq (dIfS (dOr (dNot (dTst (dCB p__law_number (dCons (dOp dIx (dVar 3) (dC (.int 0))) (dCons (dCB dLen (dCons (dVar 0) dNil)) dNil))))) (dTst (dOp dEq (dOp dIx (dVar 3) (dC (.int 0))) (dVar 2)))) (dRet (dC (.bool false))) dNext)
 (dIfS (dNot (dTst (dCB p__law_number (dCons (dOp dIx (dVar 3) (dC (.int 1))) (dCons (dOp dIx (dVar 0) (dOp dIx (dVar 3) (dC (.int 0)))) dNil))))) (dRet (dC (.bool false))) dNext))) dNext)))
 (dSeq (dFor (iR1 (dCons (dCB dLen (dCons (dVar 1) dNil)) dNil)) (gN 2) (dIfS (dTst (dOp dIn (dVar 2) (dPub (dLc (iL (dCB p__law_climb (dCons (dVar 1) (dCons (dVar 2) dNil)))) (gN 3) dYes (dOp dIx (dVar 3) (dC (.int 0))) [3])))) (dRet (dC (.bool false))) dNext))
 (dRet (dC (.bool true))))))
theorem w__law_is_forest {P : Program} {w : World} {K : PySem.W.Frag} {mg : Str → Option Value} {base : Heap} (G : Glo K w mg) {p__law_number : DRn} (c__law_number : Cl P w K mg base "_law_number" ["_law_thing", "_law_most"] 1 p__law_number) {p__law_climb : DRn} (c__law_climb : Cl P w K mg base "_law_climb" ["_law_forest", "_law_x"] 1 p__law_climb) {f : Addr} {cdv : Value} {A : Around} {outer : List PySem.Env} {s : Shared} {H : Hp} {E : XK} (hr : Room 1 (bodyX P w K mg base N__law_is_forest "_law_is_forest" s__law_is_forest f cdv A outer s H E).A) :
  PSs (bodyX P w K mg base N__law_is_forest "_law_is_forest" s__law_is_forest f cdv A outer s H E) (defBody s__law_is_forest) (tDS K (d__law_is_forest p__law_number p__law_climb)) :=
 have nd := sc__law_is_forest.nd
 (ds_cons (ds_if (PW.pt (dw_or (dt_not (dt_val (de_isi (T := "tuple") rfl G.isinstance (dv 1) (pe_bltn (v := .ty "tuple") rfl G.tuple_ bt_tuple rfl)))) (dw_or1 (dt_cmp (op_neD hr.units) l_ne (de_len rfl G.len (da_cons (dv 1) da_nil)) (de_len rfl G.len (da_cons (dv 0) da_nil)) (nomark _))))) (ds_one (ds_ret de_bl)) ds_nil)
 (ds_cons (ds_for PassesOwn.never rfl (di_range1 rfl G.range (da_cons (de_len rfl G.len (da_cons (dv 1) da_nil)) da_nil)) (dg_name (i := 2) nd rfl (Or.inl rfl)) (ds_cons (ds_set (i := 3) nd rfl (Or.inl rfl) (de_ix (dv 1) (dv 2)))
 (ds_one (ds_if (dt_cmp op_notN l_notN (dv 3) de_non (nomark _)) (ds_cons (ds_if (PW.pt (dw_or (dt_not (dt_val (de_isi (T := "tuple") rfl G.isinstance (dv 3) (pe_bltn (v := .ty "tuple") rfl G.tuple_ bt_tuple rfl)))) (dw_or1 (dt_cmp (op_neD hr.units) l_ne (de_len rfl G.len (da_cons (dv 3) da_nil)) de_int (nomark _))))) (ds_one (ds_ret de_bl)) ds_nil)
 (ds_cons (ds_if (PW.pt (dw_or (dt_not (dt_val (de_call c__law_number hr (by decide) rfl (da_cons (de_ix (dv 3) de_int) (da_cons (de_len rfl G.len (da_cons (dv 0) da_nil)) da_nil))))) (dw_or1 (dt_cmp (op_eqD hr.units) l_eq (de_ix (dv 3) de_int) (dv 2) (nomark _))))) (ds_one (ds_ret de_bl)) ds_nil)
 (ds_one (ds_if (dt_not (dt_val (de_call c__law_number hr (by decide) rfl (da_cons (de_ix (dv 3) de_int) (da_cons (de_ix (dv 0) (de_ix (dv 3) de_int)) da_nil))))) (ds_one (ds_ret de_bl)) ds_nil)))) ds_nil))))
 (ds_cons (ds_for PassesOwn.never rfl (di_range1 rfl G.range (da_cons (de_len rfl G.len (da_cons (dv 1) da_nil)) da_nil)) (dg_name (i := 2) nd rfl (Or.inl rfl)) (ds_one (ds_if (dt_cmp (op_inS (hu65 hr)) l_in (dv 2) (de_lc (own := [("_law_place", 3)]) rfl nd (di_lst (de_call c__law_climb hr (by decide) rfl (da_cons (dv 1) (da_cons (dv 2) da_nil)))) (blkOk_by (N := N__law_is_forest) (sc := (defScope s__law_is_forest)) (by decide +kernel)) (fun _ _ _ _ _ => (dg_name (i := 3) nd rfl (Or.inl rfl))) (fun _ _ _ _ _ => dts_nil) (fun _ _ _ _ _ => (de_ix (dv 3) de_int))) rfl) (ds_one (ds_ret de_bl)) ds_nil)))
 (ds_one (ds_ret de_bl)))))
abbrev s__law_least_made : Stmt := top 114
abbrev N__law_least_made : List Str := ["_law_source", "_law_rooms", "_law_table_here", "_law_places", "_law_part", "_law_work", "_law_place", "_law_t", "_law_inner", "_law_x"]
theorem sc__law_least_made : FnScope N__law_least_made ["_law_source", "_law_rooms", "_law_table_here"] (defScope s__law_least_made) := ⟨rfl, rfl, rfl, by decide +kernel, rfl, by decide +kernel, by decide +kernel⟩
def d__law_least_made (p__law_parts : DRn) (p__law_one : DR1) (p__law_free : DRn) (p__law_less : DRn) (p__law_over : DRn) : DTS :=
 (dSeq (dSetF 3 (dLc (iR1 (dCons (dCB dLen (dCons (dVar 1) dNil)) dNil)) (gN 9) dYes (dC .none) [9]))
 (dSeq (dSetF 5 (dLc (iL (dCB p__law_parts (dCons (dVar 2) (dCons (dPub (dLc (iR1 (dCons (dCB dLen (dCons (dVar 1) dNil)) dNil)) (gN 9) dYes (dVar 9) [9])) dNil)))) (gN 4) dYes (dTup (dCons (dVar 4) (dCons (dC .none) dNil))) [4]))
 (dSeq (dWhile (dTst (dNeO 5 (dLst dNil))) (dSeq (dAsg (dPop 5) (gT 2 (gsC (gN 4) (gsC (gN 6) gs0))))
 (dSeq (dSet 7 (dCall1 0 p__law_one (dCons (dCB p__law_free (dCons (dVar 1) (dCons (dVar 2) (dCons (dVar 4) dNil)))) dNil)))
 (dSeq (dSetI 3 (dVar 6) (dVar 7))
 (dFor (iL (dCB p__law_parts (dCons (dVar 2) (dCons (dCB p__law_less (dCons (dVar 4) (dCons (dVar 7) dNil))) dNil)))) (gN 8) (dDrop (dApp 5 (dTup (dCons (dVar 8) (dCons (dTup (dCons (dVar 7) (dCons (dCall1 0 p__law_one (dCons (dCB p__law_over (dCons (dVar 1) (dCons (dVar 2) (dCons (dVar 7) (dCons (dVar 8) dNil))))) dNil)) dNil))) dNil))))))))))
 (dRet (dTupO 3)))))
theorem w__law_least_made {P : Program} {w : World} {K : PySem.W.Frag} {mg : Str → Option Value} {base : Heap} (G : Glo K w mg) {p__law_parts : DRn} (c__law_parts : Cl P w K mg base "_law_parts" ["_law_table_here", "_law_lot"] 1 p__law_parts) {p__law_one : DR1} (c__law_one : Cl1 P w K mg base "_law_one" ["_law_source", "_law_things"] 2 p__law_one) {p__law_free : DRn} (c__law_free : Cl P w K mg base "_law_free" ["_law_rooms", "_law_table_here", "_law_lot"] 2 p__law_free) {p__law_less : DRn} (c__law_less : Cl P w K mg base "_law_less" ["_law_lot", "_law_t"] 1 p__law_less) {p__law_over : DRn} (c__law_over : Cl P w K mg base "_law_over" ["_law_rooms", "_law_table_here", "_law_t", "_law_part"] 1 p__law_over) {f : Addr} {cdv : Value} {A : Around} {outer : List PySem.Env} {s : Shared} {H : Hp} {E : XK} (hr : Room 2 (bodyX P w K mg base N__law_least_made "_law_least_made" s__law_least_made f cdv A outer s H E).A) :
  PSs (bodyX P w K mg base N__law_least_made "_law_least_made" s__law_least_made f cdv A outer s H E) (defBody s__law_least_made) (tDS K (d__law_least_made p__law_parts p__law_one p__law_free p__law_less p__law_over)) :=
 have nd := sc__law_least_made.nd
 (ds_cons (ds_setLcF (i := 3) (own := [("_law_x", 9)]) rfl nd rfl rfl (sw_true rfl rfl rfl (by decide +kernel)) (di_range1 rfl G.range (da_cons (de_len rfl G.len (da_cons (dv 1) da_nil)) da_nil)) (blkOk_by (N := N__law_least_made) (sc := (defScope s__law_least_made)) (by decide +kernel)) (fun _ _ _ _ _ => (dg_name (i := 9) nd rfl (Or.inl rfl))) (fun _ _ _ _ _ => dts_nil) (fun _ _ _ _ _ => de_non))
 (ds_cons (ds_setLcF (i := 5) (own := [("_law_part", 4)]) rfl nd rfl rfl (sw_true rfl rfl rfl (by decide +kernel)) (di_lst (de_call c__law_parts hr (by decide) rfl (da_cons (dv 2) (da_cons (de_lc (own := [("_law_x", 9)]) rfl nd (di_range1 rfl G.range (da_cons (de_len rfl G.len (da_cons (dv 1) da_nil)) da_nil)) (blkOk_by (N := N__law_least_made) (sc := (defScope s__law_least_made)) (by decide +kernel)) (fun _ _ _ _ _ => (dg_name (i := 9) nd rfl (Or.inl rfl))) (fun _ _ _ _ _ => dts_nil) (fun _ _ _ _ _ => (dv 9))) da_nil)))) (blkOk_by (N := N__law_least_made) (sc := (defScope s__law_least_made)) (by decide +kernel)) (fun _ _ _ _ _ => (dg_name (i := 4) nd rfl (Or.inl rfl))) (fun _ _ _ _ _ => dts_nil) (fun _ _ _ _ _ => (de_tup (da_cons (dv 4) (da_cons de_non da_nil)))))
 (ds_cons (ds_while PassesOwn.never (dt_neO hr.units (L2.pv 5) (de_lst da_nil)) (ds_cons (ds_asg (de_pop (L2.pv 5)) (dg_tup rfl (dgs_cons (dg_name (i := 4) nd rfl (Or.inl rfl)) (dgs_cons (dg_name (i := 6) nd rfl (Or.inl rfl)) dgs_nil))))
 (ds_cons (ds_set (i := 7) nd rfl (Or.inl rfl) (de_call1 c__law_one hr (by decide) rfl (L2.pv 0) (da_cons (de_call c__law_free hr (by decide) rfl (da_cons (dv 1) (da_cons (dv 2) (da_cons (dv 4) da_nil)))) da_nil)))
 (ds_cons (ds_setI (L2.pv 3) (dv 7) (dv 6))
 (ds_one (ds_for PassesOwn.never rfl (di_lst (de_call c__law_parts hr (by decide) rfl (da_cons (dv 2) (da_cons (de_call c__law_less hr (by decide) rfl (da_cons (dv 4) (da_cons (dv 7) da_nil))) da_nil)))) (dg_name (i := 8) nd rfl (Or.inl rfl)) (ds_one (ds_expr (de_app (L2.pv 5) (de_tup (da_cons (dv 8) (da_cons (de_tup (da_cons (dv 7) (da_cons (de_call1 c__law_one hr (by decide) rfl (L2.pv 0) (da_cons (de_call c__law_over hr (by decide) rfl (da_cons (dv 1) (da_cons (dv 2) (da_cons (dv 7) (da_cons (dv 8) da_nil))))) da_nil)) da_nil))) da_nil))))))))))))
 (ds_one (ds_ret (de_tupO (L2.pv 3) rfl G.tuple_))))))
abbrev s__law_walk_right : Stmt := top 115
abbrev N__law_walk_right : List Str := ["_law_rooms", "_law_sayings", "_law_one_here", "_law_two", "_law_book", "_law_table_here", "_law_row", "_law_here", "_law_deed", "_law_granted", "_law_behind_here", "_law_let"]
theorem sc__law_walk_right : FnScope N__law_walk_right ["_law_rooms", "_law_sayings", "_law_one_here", "_law_two"] (defScope s__law_walk_right) := ⟨rfl, rfl, rfl, by decide +kernel, rfl, by decide +kernel, by decide +kernel⟩
def d__law_walk_right (p__law_table : DRn) (p_walk : DRn) (p_least_right : DRn) (p__law_deeds : DRn) (p__law_behind : DRn) (p_after : DRn) (p__law_is_least : DRn) : DTS :=
 (dSeq (dPar 4 5 (sDat (dTup (dCons (dVar 0) (dCons (dCB dTupL (dCons (dVar 1) dNil)) dNil))) (sDat (dCB p__law_table (dCons (dVar 0) (dCons (dVar 1) dNil))) sNil)))
 (dSeq (dSet 6 (dCB p_walk (dCons (dVar 4) (dCons (dVar 2) (dCons (dVar 3) dNil)))))
 (dSeq (dIfS (dOr (dNot (dTst (dIsi "tuple" (dVar 6)))) (dTst (dOp oGt (dCB dLen (dCons (dVar 6) dNil)) (dC (.int 60))))) (dRet (dC (.bool false))) dNext)
 (dSeq (dSet 7 (dVar 2))
 (dSeq (dIfS (dOr (dTst (dOp dIsNotB (dCB p_least_right (dCons (dVar 4) (dCons (dVar 2) dNil))) (dC (.bool true)))) (dTst (dOp dIsNotB (dCB p_least_right (dCons (dVar 4) (dCons (dVar 3) dNil))) (dC (.bool true))))) (dRet (dC (.bool false))) dNext)
 (dSeq (dFor (iT (dVar 6)) (gN 8) (dSeq (dSet 9 (dPub (dLc (iL (dCB p__law_deeds (dCons (dVar 0) (dCons (dVar 5) (dCons (dVar 7) dNil))))) (gN 11) dYes (dRepr (dVar 11)) [11])))
 (dSeq (dIfS (dTst (dOp dNotIn (dRepr (dVar 8)) (dVar 9))) (dRet (dC (.bool false))) dNext)
 (dSeq (dSet 10 (dCB p__law_behind (dCons (dVar 5) (dCons (dVar 7) (dCons (dVar 8) dNil)))))
 (dSeq (dIfS (dOr (dTst (dOp dNe (dRepr (dCB p_after (dCons (dVar 4) (dCons (dVar 7) (dCons (dVar 8) dNil))))) (dRepr (dVar 10)))) (dNot (dTst (dCB p__law_is_least (dCons (dVar 0) (dCons (dVar 5) (dCons (dVar 10) dNil))))))) (dRet (dC (.bool false))) dNext)
 (dSeq (dIfS (dTst (dOp dIsNotB (dCB p_least_right (dCons (dVar 4) (dCons (dVar 10) dNil))) (dC (.bool true)))) (dRet (dC (.bool false))) dNext)
 (dSet 7 (dVar 10))))))))
 (dRet (dAndV (dOp dEq (dVar 7) (dVar 3)) (dOrV (dOp dNe (dVar 2) (dVar 3)) (dOp dEq (dVar 6) (dTup dNil)))))))))))
theorem w__law_walk_right {P : Program} {w : World} {K : PySem.W.Frag} {mg : Str → Option Value} {base : Heap} (G : Glo K w mg) {p__law_table : DRn} (c__law_table : Cl P w K mg base "_law_table" ["_law_rooms", "_law_sayings"] 2 p__law_table) {p_walk : DRn} (c_walk : Cl P w K mg base "walk" ["book", "one", "two"] 18 p_walk) {p_least_right : DRn} (c_least_right : Cl P w K mg base "least_right" ["book", "forest"] 8 p_least_right) {p__law_deeds : DRn} (c__law_deeds : Cl P w K mg base "_law_deeds" ["_law_rooms", "_law_table_here", "_law_forest"] 3 p__law_deeds) {p__law_behind : DRn} (c__law_behind : Cl P w K mg base "_law_behind" ["_law_table_here", "_law_forest", "_law_deed"] 4 p__law_behind) {p_after : DRn} (c_after : Cl P w K mg base "after" ["book", "forest", "deed"] 8 p_after) {p__law_is_least : DRn} (c__law_is_least : Cl P w K mg base "_law_is_least" ["_law_rooms", "_law_table_here", "_law_forest"] 4 p__law_is_least) {f : Addr} {cdv : Value} {A : Around} {outer : List PySem.Env} {s : Shared} {H : Hp} {E : XK} (hr : Room 18 (bodyX P w K mg base N__law_walk_right "_law_walk_right" s__law_walk_right f cdv A outer s H E).A) (hgu : (bodyX P w K mg base N__law_walk_right "_law_walk_right" s__law_walk_right f cdv A outer s H E).A.guards = some []) :
  PSs (bodyX P w K mg base N__law_walk_right "_law_walk_right" s__law_walk_right f cdv A outer s H E) (defBody s__law_walk_right) (tDS K (d__law_walk_right p__law_table p_walk p_least_right p__law_deeds p__law_behind p_after p__law_is_least)) :=
 have nd := sc__law_walk_right.nd
 (ds_cons (ds_par (i := 4) (j := 5) rfl nd rfl rfl (by decide) rfl rfl (das_dat (de_tup (da_cons (dv 0) (da_cons (de_tupL rfl G.tuple_ (da_cons (dv 1) da_nil)) da_nil))) (das_dat (de_call c__law_table hr (by decide) rfl (da_cons (dv 0) (da_cons (dv 1) da_nil))) das_nil)) rfl)
 (ds_cons (ds_set (i := 6) nd rfl (Or.inl rfl) (de_call c_walk hr (by decide) rfl (da_cons (dv 4) (da_cons (dv 2) (da_cons (dv 3) da_nil)))))
 (ds_cons (ds_if (PW.pt (dw_or (dt_not (dt_val (de_isi (T := "tuple") rfl G.isinstance (dv 6) (pe_bltn (v := .ty "tuple") rfl G.tuple_ bt_tuple rfl)))) (dw_or1 (dt_cmp op_gt l_IB (de_len rfl G.len (da_cons (dv 6) da_nil)) de_int (nomark _))))) (ds_one (ds_ret de_bl)) ds_nil)
 (ds_cons (ds_set (i := 7) nd rfl (Or.inl rfl) (dv 2))
 (ds_cons (ds_if (PW.pt (dw_or (dt_cmp op_notBl l_isNotB (de_call c_least_right hr (by decide) rfl (da_cons (dv 4) (da_cons (dv 2) da_nil))) de_bl (nomark _)) (dw_or1 (dt_cmp op_notBl l_isNotB (de_call c_least_right hr (by decide) rfl (da_cons (dv 4) (da_cons (dv 3) da_nil))) de_bl (nomark _))))) (ds_one (ds_ret de_bl)) ds_nil)
 (ds_cons (ds_for PassesOwn.never rfl (di_tup (dv 6)) (dg_name (i := 8) nd rfl (Or.inl rfl)) (ds_cons (ds_setLc (i := 9) (own := [("_law_let", 11)]) rfl nd rfl rfl (sw_true rfl rfl rfl (by decide +kernel)) (di_lst (de_call c__law_deeds hr (by decide) rfl (da_cons (dv 0) (da_cons (dv 5) (da_cons (dv 7) da_nil))))) (blkOk_by (N := N__law_walk_right) (sc := (defScope s__law_walk_right)) (by decide +kernel)) (fun _ _ _ _ _ => (dg_name (i := 11) nd rfl (Or.inl rfl))) (fun _ _ _ _ _ => dts_nil) (fun _ _ _ _ _ => (de_repr (hu62 hr) hgu rfl G.repr_ (dv 11))))
 (ds_cons (ds_if (dt_cmp (op_notInS (hu65 hr)) l_notIn (de_repr (hu62 hr) hgu rfl G.repr_ (dv 8)) (dv 9) rfl) (ds_one (ds_ret de_bl)) ds_nil)
 (ds_cons (ds_set (i := 10) nd rfl (Or.inl rfl) (de_call c__law_behind hr (by decide) rfl (da_cons (dv 5) (da_cons (dv 7) (da_cons (dv 8) da_nil)))))
 (ds_cons (ds_if (PW.pt (dw_or (dt_cmp (op_neD hr.units) l_ne (de_repr (hu62 hr) hgu rfl G.repr_ (de_call c_after hr (by decide) rfl (da_cons (dv 4) (da_cons (dv 7) (da_cons (dv 8) da_nil))))) (de_repr (hu62 hr) hgu rfl G.repr_ (dv 10)) (nomark _)) (dw_or1 (dt_not (dt_val (de_call c__law_is_least hr (by decide) rfl (da_cons (dv 0) (da_cons (dv 5) (da_cons (dv 10) da_nil))))))))) (ds_one (ds_ret de_bl)) ds_nil)
 (ds_cons (ds_if (dt_cmp op_notBl l_isNotB (de_call c_least_right hr (by decide) rfl (da_cons (dv 4) (da_cons (dv 10) da_nil))) de_bl (nomark _)) (ds_one (ds_ret de_bl)) ds_nil)
 (ds_one (ds_set (i := 7) nd rfl (Or.inl rfl) (dv 10)))))))))
 (ds_one (ds_ret (de_and (de_cmp (op_eqD hr.units) l_eq (dv 7) (dv 3) (nomark _)) (de_one (de_or (de_cmp (op_neD hr.units) l_ne (dv 2) (dv 3) (nomark _)) (de_one (de_cmp (op_eqD hr.units) l_eq (dv 6) (de_tup da_nil) (nomark _))))))))))))))
abbrev s__law_kept_saying : Stmt := top 116
abbrev N__law_kept_saying : List Str := ["_law_source", "_law_rooms", "_law_forest", "_law_x", "_law_y", "_law_lot", "_law_own", "_law_standing_here"]
theorem sc__law_kept_saying : FnScope N__law_kept_saying ["_law_source", "_law_rooms", "_law_forest"] (defScope s__law_kept_saying) := ⟨rfl, rfl, rfl, by decide +kernel, rfl, by decide +kernel, by decide +kernel⟩
def d__law_kept_saying (p__law_saying : DR1) (p__law_standing : DRn) (p__law_every : DRn) : DTS :=
 (dSeq (dAsg (dCall1 0 p__law_saying (dCons (dVar 1) (dCons (dVar 2) dNil))) (gT 3 (gsC (gN 3) (gsC (gN 4) (gsC (gN 5) gs0)))))
 (dSeq (dSet 6 (dCB p__law_standing (dCons (dVar 2) (dCons (dVar 3) (dCons (dVar 4) dNil)))))
 (dRet (dTup (dCons (dVar 3) (dCons (dVar 4) (dCons (dCB dTupL (dCons (dPub (dLc (iL (dCB p__law_every (dCons (dVar 1) (dCons (dVar 3) (dCons (dVar 4) dNil))))) (gN 7) (dOr (dTst (dOp dIn (dVar 7) (dVar 5))) (dTst (dOp dEq (dVar 7) (dVar 6)))) (dVar 7) [7])) dNil)) dNil)))))))
theorem w__law_kept_saying {P : Program} {w : World} {K : PySem.W.Frag} {mg : Str → Option Value} {base : Heap} (G : Glo K w mg) {p__law_saying : DR1} (c__law_saying : Cl1 P w K mg base "_law_saying" ["_law_source", "_law_rooms", "_law_forest"] 3 p__law_saying) {p__law_standing : DRn} (c__law_standing : Cl P w K mg base "_law_standing" ["_law_forest", "_law_x", "_law_y"] 2 p__law_standing) {p__law_every : DRn} (c__law_every : Cl P w K mg base "_law_every" ["_law_rooms", "_law_x", "_law_y"] 1 p__law_every) {f : Addr} {cdv : Value} {A : Around} {outer : List PySem.Env} {s : Shared} {H : Hp} {E : XK} (hr : Room 3 (bodyX P w K mg base N__law_kept_saying "_law_kept_saying" s__law_kept_saying f cdv A outer s H E).A) :
  PSs (bodyX P w K mg base N__law_kept_saying "_law_kept_saying" s__law_kept_saying f cdv A outer s H E) (defBody s__law_kept_saying) (tDS K (d__law_kept_saying p__law_saying p__law_standing p__law_every)) :=
 have nd := sc__law_kept_saying.nd
 (ds_cons (ds_asg (de_call1 c__law_saying hr (by decide) rfl (L2.pv 0) (da_cons (dv 1) (da_cons (dv 2) da_nil))) (dg_tup rfl (dgs_cons (dg_name (i := 3) nd rfl (Or.inl rfl)) (dgs_cons (dg_name (i := 4) nd rfl (Or.inl rfl)) (dgs_cons (dg_name (i := 5) nd rfl (Or.inr rfl)) dgs_nil)))))
 (ds_cons (ds_set (i := 6) nd rfl (Or.inr rfl) (de_call c__law_standing hr (by decide) rfl (da_cons (dv 2) (da_cons (dv 3) (da_cons (dv 4) da_nil)))))
 (ds_one (ds_ret (de_tup (da_cons (dv 3) (da_cons (dv 4) (da_cons (de_tupL rfl G.tuple_ (da_cons (de_lc (own := [("_law_standing_here", 7)]) rfl nd (di_lst (de_call c__law_every hr (by decide) rfl (da_cons (dv 1) (da_cons (dv 3) (da_cons (dv 4) da_nil))))) (blkOk_by (N := N__law_kept_saying) (sc := (defScope s__law_kept_saying)) (by decide +kernel)) (fun _ _ _ _ _ => (dg_name (i := 7) nd rfl (Or.inl rfl))) (fun _ _ _ _ _ => (dts_one (PW.pt (dw_or (dt_cmp (op_inS (hu65 hr)) l_in (dv 7) (dv 5) rfl) (dw_or1 (dt_cmp (op_eqD hr.units) l_eq (dv 7) (dv 6) (nomark _))))))) (fun _ _ _ _ _ => (dv 7))) da_nil)) da_nil))))))))
abbrev s_law : Stmt := top 117
abbrev N_law : List Str := ["_law_script", "_law_both", "_law_knot", "_law_source", "_law_rooms", "_law_forest", "_law_sayings", "_law_table_here", "_law_one_here", "_law_two", "_law_x", "_law_turn"]
theorem sc_law : FnScope N_law ["_law_script"] (defScope s_law) := ⟨rfl, rfl, rfl, by decide +kernel, rfl, by decide +kernel, by decide +kernel⟩
def d_law (p__law_walk_right : DRn) (p__law_pool : DRF) (p__law_take : DR1) (p__law_one : DR1) (p__law_grown : DR1) (p__law_kept_saying : DR1) (p__law_table : DRn) (p__law_least_made : DR1) : DTS :=
 (dSeq (dSet 1 (dTup (dCons (dTup (dCons (dC (.str "in")) (dCons (dC (.int 0)) dNil))) (dCons (dTup (dCons (dC (.str "around")) (dCons (dC (.int 0)) dNil))) dNil))))
 (dSeq (dSet 2 (dLst (dCons (dTup (dCons (dC (.int 0)) (dCons (dC (.int 1)) (dCons (dVar 1) dNil)))) (dCons (dTup (dCons (dC (.int 1)) (dCons (dC (.int 2)) (dCons (dVar 1) dNil)))) (dCons (dTup (dCons (dC (.int 2)) (dCons (dC (.int 0)) (dCons (dVar 1) dNil)))) dNil)))))
 (dSeq (dIfS (dNot (dTst (dCB p__law_walk_right (dCons (dTup (dCons (dC (.int 1)) (dCons (dC (.int 1)) (dCons (dC (.int 1)) dNil)))) (dCons (dVar 2) (dCons (dTup (dCons (dC .none) (dCons (dTup (dCons (dC (.int 0)) (dCons (dC (.int 0)) dNil))) (dCons (dTup (dCons (dC (.int 1)) (dCons (dC (.int 0)) dNil))) dNil)))) (dCons (dTup (dCons (dTup (dCons (dC (.int 1)) (dCons (dC (.int 0)) dNil))) (dCons (dTup (dCons (dC (.int 2)) (dCons (dC (.int 0)) dNil))) (dCons (dC .none) dNil)))) dNil))))))) (dRet (dC (.bool false))) dNext)
 (dSeq (dSetF 3 (dCF p__law_pool (dCons (dVar 0) (dCons (dC (.int 0)) dNil))))
 (dSeq (dSet 4 (dCB dTupL (dCons (dPub (dLc (iR1 (dCons (dOp oAdd (dC (.int 3)) (dCall1 3 p__law_take (dCons (dC (.int 3)) dNil))) dNil)) (gN 10) dYes (dCall1 3 p__law_one (dCons (dLst (dCons (dC (.int 1)) (dCons (dC (.int 2)) (dCons (dC (.int 1)) (dCons (dC (.int 3)) (dCons (dC (.int 2)) (dCons (dC (.int 0)) (dCons (dC (.int 4)) dNil)))))))) dNil)) [10])) dNil)))
 (dSeq (dSet 5 (dCall1 3 p__law_grown (dCons (dVar 4) dNil)))
 (dSeq (dSet 6 (dPub (dLc (iR1 (dCons (dCall1 3 p__law_take (dCons (dC (.int 7)) dNil)) dNil)) (gN 11) dYes (dCall1 3 p__law_kept_saying (dCons (dVar 4) (dCons (dVar 5) dNil))) [11])))
 (dSeq (dSet 7 (dCB p__law_table (dCons (dVar 4) (dCons (dVar 6) dNil))))
 (dSeq (dPar 8 9 (sDat (dCall1 3 p__law_least_made (dCons (dVar 4) (dCons (dVar 7) dNil))) (sDat (dCall1 3 p__law_least_made (dCons (dVar 4) (dCons (dVar 7) dNil))) sNil)))
 (dSeq (dIfS (dNot (dTst (dCB p__law_walk_right (dCons (dVar 4) (dCons (dVar 6) (dCons (dVar 8) (dCons (dVar 8) dNil))))))) (dRet (dC (.bool false))) dNext)
 (dRet (dCB p__law_walk_right (dCons (dVar 4) (dCons (dVar 6) (dCons (dVar 8) (dCons (dVar 9) dNil))))))))))))))))
theorem w_law {P : Program} {w : World} {K : PySem.W.Frag} {mg : Str → Option Value} {base : Heap} (G : Glo K w mg) {p__law_walk_right : DRn} (c__law_walk_right : ClG P w K mg base "_law_walk_right" ["_law_rooms", "_law_sayings", "_law_one_here", "_law_two"] 19 p__law_walk_right) {p__law_pool : DRF} (c__law_pool : ClF P w K mg base "_law_pool" ["_law_script", "_law_k"] 1 p__law_pool) {p__law_take : DR1} (c__law_take : Cl1 P w K mg base "_law_take" ["_law_source", "_law_top"] 1 p__law_take) {p__law_one : DR1} (c__law_one : Cl1 P w K mg base "_law_one" ["_law_source", "_law_things"] 2 p__law_one) {p__law_grown : DR1} (c__law_grown : Cl1 P w K mg base "_law_grown" ["_law_source", "_law_rooms"] 3 p__law_grown) {p__law_kept_saying : DR1} (c__law_kept_saying : Cl1 P w K mg base "_law_kept_saying" ["_law_source", "_law_rooms", "_law_forest"] 4 p__law_kept_saying) {p__law_table : DRn} (c__law_table : Cl P w K mg base "_law_table" ["_law_rooms", "_law_sayings"] 2 p__law_table) {p__law_least_made : DR1} (c__law_least_made : Cl1 P w K mg base "_law_least_made" ["_law_source", "_law_rooms", "_law_table_here"] 3 p__law_least_made) {f : Addr} {cdv : Value} {A : Around} {outer : List PySem.Env} {s : Shared} {H : Hp} {E : XK} (hr : Room 19 (bodyX P w K mg base N_law "law" s_law f cdv A outer s H E).A) (hgu : (bodyX P w K mg base N_law "law" s_law f cdv A outer s H E).A.guards = some []) :
  PSs (bodyX P w K mg base N_law "law" s_law f cdv A outer s H E) (defBody s_law) (tDS K (d_law p__law_walk_right p__law_pool p__law_take p__law_one p__law_grown p__law_kept_saying p__law_table p__law_least_made)) :=
 have nd := sc_law.nd
 (ds_cons (ds_set (i := 1) nd rfl (Or.inl rfl) (de_tup (da_cons (de_tup (da_cons de_str (da_cons de_int da_nil))) (da_cons (de_tup (da_cons de_str (da_cons de_int da_nil))) da_nil))))
 (ds_cons (ds_set (i := 2) nd rfl (Or.inl rfl) (de_lst (da_cons (de_tup (da_cons de_int (da_cons de_int (da_cons (dv 1) da_nil)))) (da_cons (de_tup (da_cons de_int (da_cons de_int (da_cons (dv 1) da_nil)))) (da_cons (de_tup (da_cons de_int (da_cons de_int (da_cons (dv 1) da_nil)))) da_nil)))))
 (ds_cons (ds_if (dt_not (dt_val (de_callG c__law_walk_right hr hgu (by decide) rfl (da_cons (de_tup (da_cons de_int (da_cons de_int (da_cons de_int da_nil)))) (da_cons (dv 2) (da_cons (de_tup (da_cons de_non (da_cons (de_tup (da_cons de_int (da_cons de_int da_nil))) (da_cons (de_tup (da_cons de_int (da_cons de_int da_nil))) da_nil)))) (da_cons (de_tup (da_cons (de_tup (da_cons de_int (da_cons de_int da_nil))) (da_cons (de_tup (da_cons de_int (da_cons de_int da_nil))) (da_cons de_non da_nil)))) da_nil))))))) (ds_one (ds_ret de_bl)) ds_nil)
 (ds_cons (ds_setF (i := 3) nd rfl (Or.inr rfl) (df_call c__law_pool hr (by decide) rfl (da_cons (dv 0) (da_cons de_int da_nil))))
 (ds_cons (ds_set (i := 4) nd rfl (Or.inr rfl) (de_tupL rfl G.tuple_ (da_cons (de_lc (own := [("_law_x", 10)]) rfl nd (di_range1 rfl G.range (da_cons (de_op op_add l_I0 de_int (de_call1 c__law_take hr (by decide) rfl (L2.pv 3) (da_cons de_int da_nil))) da_nil)) (blkOk_by (N := N_law) (sc := (defScope s_law)) (by decide +kernel)) (fun _ _ _ _ _ => (dg_name (i := 10) nd rfl (Or.inl rfl))) (fun _ _ _ _ _ => dts_nil) (fun _ _ _ _ _ => (de_call1 c__law_one hr (by decide) rfl (L2.pv 3) (da_cons (de_lst (da_cons de_int (da_cons de_int (da_cons de_int (da_cons de_int (da_cons de_int (da_cons de_int (da_cons de_int da_nil)))))))) da_nil)))) da_nil)))
 (ds_cons (ds_set (i := 5) nd rfl (Or.inr rfl) (de_call1 c__law_grown hr (by decide) rfl (L2.pv 3) (da_cons (dv 4) da_nil)))
 (ds_cons (ds_setLc (i := 6) (own := [("_law_turn", 11)]) rfl nd rfl rfl (sw_true rfl rfl rfl (by decide +kernel)) (di_range1 rfl G.range (da_cons (de_call1 c__law_take hr (by decide) rfl (L2.pv 3) (da_cons de_int da_nil)) da_nil)) (blkOk_by (N := N_law) (sc := (defScope s_law)) (by decide +kernel)) (fun _ _ _ _ _ => (dg_name (i := 11) nd rfl (Or.inl rfl))) (fun _ _ _ _ _ => dts_nil) (fun _ _ _ _ _ => (de_call1 c__law_kept_saying hr (by decide) rfl (L2.pv 3) (da_cons (dv 4) (da_cons (dv 5) da_nil)))))
 (ds_cons (ds_set (i := 7) nd rfl (Or.inl rfl) (de_call c__law_table hr (by decide) rfl (da_cons (dv 4) (da_cons (dv 6) da_nil))))
 (ds_cons (ds_par (i := 8) (j := 9) rfl nd rfl rfl (by decide) rfl rfl (das_dat (de_call1 c__law_least_made hr (by decide) rfl (L2.pv 3) (da_cons (dv 4) (da_cons (dv 7) da_nil))) (das_dat (de_call1 c__law_least_made hr (by decide) rfl (L2.pv 3) (da_cons (dv 4) (da_cons (dv 7) da_nil))) das_nil)) rfl)
 (ds_cons (ds_if (dt_not (dt_val (de_callG c__law_walk_right hr hgu (by decide) rfl (da_cons (dv 4) (da_cons (dv 6) (da_cons (dv 8) (da_cons (dv 8) da_nil))))))) (ds_one (ds_ret de_bl)) ds_nil)
 (ds_one (ds_ret (de_callG c__law_walk_right hr hgu (by decide) rfl (da_cons (dv 4) (da_cons (dv 6) (da_cons (dv 8) (da_cons (dv 9) da_nil)))))))))))))))))
abbrev s_Course_do : Stmt := inClass (top 86) 1
abbrev N_Course_do : List Str := ["self", "word", "x", "room", "deed"]
theorem sc_Course_do : FnScope N_Course_do ["self", "word", "x", "room"] (defScope s_Course_do) := ⟨rfl, rfl, rfl, by decide +kernel, rfl, by decide +kernel, by decide +kernel⟩
def d_Course_do (C : Addr) (p_behind : DRn) : DTS :=
 (dSeq (dSet 4 (dTup (dCons (dVar 1) (dCons (dVar 2) (dCons (dVar 3) dNil)))))
 (dSeq (dSetHere C 0 (dCB p_behind (dCons (dFW C 0) (dCons (dFH C 0) (dCons (dVar 4) dNil)))))
 (dDrop (dAppR C 0 (dVar 4)))))
theorem w_Course_do {P : Program} {w : World} {K : PySem.W.Frag} {mg : Str → Option Value} {base : Heap} (G : Glo K w mg) {C : Addr} (T : CTxt K mg C) {p_behind : DRn} (c_behind : Cl P w K mg base "behind" ["world", "forest", "deed"] 7 p_behind) {f : Addr} {cdv : Value} {A : Around} {outer : List PySem.Env} {s : Shared} {H : Hp} {E : XK} (hr : Room 7 (bodyX P w K mg base N_Course_do "Course.do" s_Course_do f cdv A outer s H E).A) :
  PSs (bodyX P w K mg base N_Course_do "Course.do" s_Course_do f cdv A outer s H E) (defBody s_Course_do) (tDS K (d_Course_do C p_behind)) :=
 have nd := sc_Course_do.nd
 (ds_cons (ds_set (i := 4) nd rfl (Or.inl rfl) (de_tup (da_cons (dv 1) (da_cons (dv 2) (da_cons (dv 3) da_nil)))))
 (ds_cons (ds_setHere T (L2.pv 0) (de_call c_behind hr (by decide) rfl (da_cons (de_fW T (L2.pv 0)) (da_cons (de_fH T (L2.pv 0)) (da_cons (dv 4) da_nil)))))
 (ds_one (ds_expr (de_appR T (L2.pv 0) (dv 4))))))
abbrev s_Course_raise_in : Stmt := inClass (top 86) 2
abbrev N_Course_raise_in : List Str := ["self", "part", "x", "holder"]
theorem sc_Course_raise_in : FnScope N_Course_raise_in ["self", "part", "x"] (defScope s_Course_raise_in) := ⟨rfl, rfl, rfl, by decide +kernel, rfl, by decide +kernel, by decide +kernel⟩
def d_Course_raise_in (C : Addr) (p_outermost : DRn) (p_room_way : DRn) (p_Course_do : DR1) : DTS :=
 (dWhile (dTst (dOp dNe (dCB p_outermost (dCons (dFH C 0) (dCons (dVar 1) dNil))) (dVar 2))) (dSeq (dSet 3 (dOp dIx (dOp dIx (dFH C 0) (dVar 2)) (dC (.int 0))))
 (dDrop (dMeth C 0 p_Course_do (dCons (dC (.str "turn")) (dCons (dVar 2) (dCons (dCB p_room_way (dCons (dFG C 0) (dCons (dVar 3) (dCons (dVar 2) dNil)))) dNil)))))))
theorem w_Course_raise_in {P : Program} {w : World} {K : PySem.W.Frag} {mg : Str → Option Value} {base : Heap} (G : Glo K w mg) {C : Addr} (T : CTxt K mg C) {p_outermost : DRn} (c_outermost : Cl P w K mg base "outermost" ["forest", "part"] 1 p_outermost) {p_room_way : DRn} (c_room_way : Cl P w K mg base "room_way" ["forest", "x", "y"] 1 p_room_way) {p_Course_do : DR1} (c_Course_do : ClM P w K mg base C "do" ["self", "word", "x", "room"] 8 p_Course_do) {f : Addr} {cdv : Value} {A : Around} {outer : List PySem.Env} {s : Shared} {H : Hp} {E : XK} (hr : Room 8 (bodyX P w K mg base N_Course_raise_in "Course.raise_in" s_Course_raise_in f cdv A outer s H E).A) :
  PSs (bodyX P w K mg base N_Course_raise_in "Course.raise_in" s_Course_raise_in f cdv A outer s H E) (defBody s_Course_raise_in) (tDS K (d_Course_raise_in C p_outermost p_room_way p_Course_do)) :=
 have nd := sc_Course_raise_in.nd
 (ds_one (ds_while PassesOwn.never (dt_cmp (op_neD hr.units) l_ne (de_call c_outermost hr (by decide) rfl (da_cons (de_fH T (L2.pv 0)) (da_cons (dv 1) da_nil))) (dv 2) (nomark _)) (ds_cons (ds_set (i := 3) nd rfl (Or.inl rfl) (de_ix (de_ix (de_fH T (L2.pv 0)) (dv 2)) de_int))
 (ds_one (ds_expr (de_meth c_Course_do T hr (by decide) (L2.pv 0) (da_cons de_str (da_cons (dv 2) (da_cons (de_call c_room_way hr (by decide) rfl (da_cons (de_fG T (L2.pv 0)) (da_cons (dv 3) (da_cons (dv 2) da_nil)))) da_nil)))))))))
abbrev s_Course_lead : Stmt := inClass (top 86) 3
abbrev N_Course_lead : List Str := ["self", "part", "x", "inner", "top", "room"]
theorem sc_Course_lead : FnScope N_Course_lead ["self", "part"] (defScope s_Course_lead) := ⟨rfl, rfl, rfl, by decide +kernel, rfl, by decide +kernel, by decide +kernel⟩
def d_Course_lead (C : Addr) (p_outermost : DRn) (p_parts_in : DRn) (p_without : DRn) (p_room_way : DRn) (p_Course_raise_in : DR1) (p_Course_do : DR1) (p_Course_lead : DR1) : DTS :=
 (dSeq (dSet 2 (dCB p_outermost (dCons (dFG C 0) (dCons (dVar 1) dNil))))
 (dSeq (dDrop (dMeth C 0 p_Course_raise_in (dCons (dVar 1) (dCons (dVar 2) dNil))))
 (dFor (iT (dCB p_parts_in (dCons (dFW C 0) (dCons (dCB p_without (dCons (dVar 1) (dCons (dVar 2) dNil))) dNil)))) (gN 3) (dSeq (dSet 4 (dCB p_outermost (dCons (dFH C 0) (dCons (dVar 3) dNil))))
 (dSeq (dSet 5 (dCB p_room_way (dCons (dFG C 0) (dCons (dOp dIx (dVar 3) (dC (.int 0))) (dCons (dVar 2) dNil)))))
 (dSeq (dIfS (dTst (dOp dNe (dOp dIx (dOp dIx (dFH C 0) (dVar 4)) (dC (.int 1))) (dVar 5))) (dDrop (dMeth C 0 p_Course_do (dCons (dC (.str "shift")) (dCons (dVar 4) (dCons (dVar 5) dNil))))) dNext)
 (dDrop (dMeth C 0 p_Course_lead (dCons (dVar 3) dNil)))))))))
theorem w_Course_lead {P : Program} {w : World} {K : PySem.W.Frag} {mg : Str → Option Value} {base : Heap} (G : Glo K w mg) {k : Nat} (hk : 9 ≤ k) {C : Addr} (T : CTxt K mg C) {p_outermost : DRn} (c_outermost : Cl P w K mg base "outermost" ["forest", "part"] 1 p_outermost) {p_parts_in : DRn} (c_parts_in : Cl P w K mg base "parts_in" ["world", "lot"] 2 p_parts_in) {p_without : DRn} (c_without : Cl P w K mg base "without" ["lot", "t"] 1 p_without) {p_room_way : DRn} (c_room_way : Cl P w K mg base "room_way" ["forest", "x", "y"] 1 p_room_way) {p_Course_raise_in : DR1} (c_Course_raise_in : ClM P w K mg base C "raise_in" ["self", "part", "x"] 9 p_Course_raise_in) {p_Course_do : DR1} (c_Course_do : ClM P w K mg base C "do" ["self", "word", "x", "room"] 8 p_Course_do) {p_Course_lead : DR1} (c_Course_lead : ClM P w K mg base C "lead" ["self", "part"] k p_Course_lead) {f : Addr} {cdv : Value} {A : Around} {outer : List PySem.Env} {s : Shared} {H : Hp} {E : XK} (hr : Room k (bodyX P w K mg base N_Course_lead "Course.lead" s_Course_lead f cdv A outer s H E).A) :
  PSs (bodyX P w K mg base N_Course_lead "Course.lead" s_Course_lead f cdv A outer s H E) (defBody s_Course_lead) (tDS K (d_Course_lead C p_outermost p_parts_in p_without p_room_way p_Course_raise_in p_Course_do p_Course_lead)) :=
 have nd := sc_Course_lead.nd
 (ds_cons (ds_set (i := 2) nd rfl (Or.inl rfl) (de_call c_outermost hr (Nat.le_trans (by decide) hk) rfl (da_cons (de_fG T (L2.pv 0)) (da_cons (dv 1) da_nil))))
 (ds_cons (ds_expr (de_meth c_Course_raise_in T hr (Nat.le_trans (by decide) hk) (L2.pv 0) (da_cons (dv 1) (da_cons (dv 2) da_nil))))
 (ds_one (ds_for PassesOwn.never rfl (di_tup (de_call c_parts_in hr (Nat.le_trans (by decide) hk) rfl (da_cons (de_fW T (L2.pv 0)) (da_cons (de_call c_without hr (Nat.le_trans (by decide) hk) rfl (da_cons (dv 1) (da_cons (dv 2) da_nil))) da_nil)))) (dg_name (i := 3) nd rfl (Or.inl rfl)) (ds_cons (ds_set (i := 4) nd rfl (Or.inl rfl) (de_call c_outermost hr (Nat.le_trans (by decide) hk) rfl (da_cons (de_fH T (L2.pv 0)) (da_cons (dv 3) da_nil))))
 (ds_cons (ds_set (i := 5) nd rfl (Or.inl rfl) (de_call c_room_way hr (Nat.le_trans (by decide) hk) rfl (da_cons (de_fG T (L2.pv 0)) (da_cons (de_ix (dv 3) de_int) (da_cons (dv 2) da_nil)))))
 (ds_cons (ds_if (dt_cmp (op_neD hr.units) l_ne (de_ix (de_ix (de_fH T (L2.pv 0)) (dv 4)) de_int) (dv 5) (nomark _)) (ds_one (ds_expr (de_meth c_Course_do T hr (Nat.le_trans (by decide) hk) (L2.pv 0) (da_cons de_str (da_cons (dv 4) (da_cons (dv 5) da_nil)))))) ds_nil)
 (ds_one (ds_expr (de_meth c_Course_lead T hr (Nat.le_refl _) (L2.pv 0) (da_cons (dv 3) da_nil)))))))))))
end DL
end
section
set_option Elab.async false
set_option maxRecDepth 100000
set_option linter.all false
namespace DL
open PySem L2 L2.DC L2.GD MM
/-! ### the plain model as data -/
@[simp] theorem ncast {a b : Nat} : ((a : Int) = (b : Int)) = (a = b) := propext ⟨fun h => by omega, fun h => by rw [h]⟩
@[simp] theorem ncast0 {a : Nat} : ((a : Int) = 0) = (a = 0) := propext ⟨fun h => by omega, fun h => by rw [h]; rfl⟩
def nD (n : Nat) : PyData := .int (n : Int)
@[simp] theorem nD_inj {a b : Nat} : nD a = nD b ↔ a = b := ⟨fun h => by unfold nD at h; have := PyData.int.inj h; omega, fun h => by rw [h]⟩
def placeD : Plc → PyData
  | none => .none
  | some (h, r) => .tuple [nD h, nD r]
def forestD (f : Forest) : PyData := .tuple (f.map placeD)
def lotD (l : List Nat) : PyData := .tuple (l.map nD)
def lotL (l : List Nat) : PyData := .list (l.map nD)
def sdD : Sd → PyData
  | .apart => .tuple [.str "apart", .int 0]
  | .inn r => .tuple [.str "in", nD r]
  | .aro r => .tuple [.str "around", nD r]
def letsD (l : List Sd) : PyData := .tuple (l.map sdD)
def letsL (l : List Sd) : PyData := .list (l.map sdD)
def sayD (s : Say) : PyData := .tuple [nD s.1, nD s.2.1, letsD s.2.2]
def saysD (ss : List Say) : PyData := .tuple (ss.map sayD)
def saysL (ss : List Say) : PyData := .list (ss.map sayD)
def bookD (R : List Nat) (ss : List Say) : PyData := .tuple [lotD R, saysD ss]
def pairs (n : Nat) : List (Nat × Nat) := (List.range n).flatMap fun x => ((List.range n).filter fun y => decide (x ≠ y)).map fun y => (x, y)
def keyOf (p : Nat × Nat) : List Key := [.inl (p.1 : Int), .inl (p.2 : Int)]
def tabM (enc : List Sd → PyData) (n : Nat) (L : Tab) : KMap := (pairs n).map fun p => (keyOf p, enc (L p.1 p.2))
def lotsD (ls : List (List Nat)) : PyData := .tuple (ls.map lotD)
def lotsL (ls : List (List Nat)) : PyData := .list (ls.map lotD)
def worldD (R : List Nat) (L : Tab) : PyData := .tuple [lotD R, dictD (tabM letsD R.length L), lotsD (near R.length L)]
def dwD (b : Bool) : PyData := .str (if b then "turn" else "shift")
def deedD (d : Deed) : PyData := .tuple [dwD d.1, nD d.2.1, nD d.2.2]
def deedsD (ds : List Deed) : PyData := .tuple (ds.map deedD)
def deedsL (ds : List Deed) : PyData := .list (ds.map deedD)
def hrD (p : Nat × Plc) : PyData := .tuple [nD p.1, placeD p.2]
def rowD (r : Row) : PyData := .tuple (r.map hrD)
def rowL (r : Row) : PyData := .list (r.map hrD)
@[simp] theorem placeD_inj : ∀ {a b : Plc}, placeD a = placeD b ↔ a = b
  | none, none => by simp
  | none, some (h, r) => by simp [placeD]
  | some (h, r), none => by simp [placeD]
  | some (h, r), some (h', r') => by simp [placeD, nD_inj]
theorem map_inj_iff {α β : Type} {f : α → β} (hf : ∀ {a b}, f a = f b ↔ a = b) {xs ys : List α} : xs.map f = ys.map f ↔ xs = ys := ⟨map_inj fun _ _ => hf.mp, fun h => by rw [h]⟩
@[simp] theorem forestD_inj {a b : Forest} : forestD a = forestD b ↔ a = b := by simp [forestD, map_inj_iff placeD_inj]
@[simp] theorem lotD_inj {a b : List Nat} : lotD a = lotD b ↔ a = b := by simp [lotD, map_inj_iff nD_inj]
@[simp] theorem lotL_inj {a b : List Nat} : lotL a = lotL b ↔ a = b := by simp [lotL, map_inj_iff nD_inj]
theorem st_ne : ("apart" : Str) ≠ "in" ∧ ("apart" : Str) ≠ "around" ∧ ("in" : Str) ≠ "around" := by decide +kernel
theorem st_ne2 : ("in" : Str) ≠ "apart" ∧ ("around" : Str) ≠ "apart" ∧ ("around" : Str) ≠ "in" := by decide +kernel
theorem tw_ne : ("turn" : Str) ≠ "shift" ∧ ("shift" : Str) ≠ "turn" := by decide +kernel
@[simp] theorem sdD_inj : ∀ {a b : Sd}, sdD a = sdD b ↔ a = b
  | .apart, .apart => by simp
  | .apart, .inn r => by simp [sdD, st_ne.1]
  | .apart, .aro r => by simp [sdD, st_ne.2.1]
  | .inn r, .apart => by simp [sdD, st_ne2.1]
  | .inn r, .inn r' => by simp [sdD, nD_inj]
  | .inn r, .aro r' => by simp [sdD, st_ne.2.2]
  | .aro r, .apart => by simp [sdD, st_ne2.2.1]
  | .aro r, .inn r' => by simp [sdD, st_ne2.2.2]
  | .aro r, .aro r' => by simp [sdD, nD_inj]
@[simp] theorem letsD_inj {a b : List Sd} : letsD a = letsD b ↔ a = b := by simp [letsD, map_inj_iff sdD_inj]
@[simp] theorem letsL_inj {a b : List Sd} : letsL a = letsL b ↔ a = b := by simp [letsL, map_inj_iff sdD_inj]
@[simp] theorem sayD_inj : ∀ {a b : Say}, sayD a = sayD b ↔ a = b
  | (x, y, l), (x', y', l') => by simp [sayD, nD_inj, letsD_inj]
@[simp] theorem saysD_inj {a b : List Say} : saysD a = saysD b ↔ a = b := by simp [saysD, map_inj_iff sayD_inj]
@[simp] theorem saysL_inj {a b : List Say} : saysL a = saysL b ↔ a = b := by simp [saysL, map_inj_iff sayD_inj]
@[simp] theorem lotsD_inj {a b : List (List Nat)} : lotsD a = lotsD b ↔ a = b := by simp [lotsD, map_inj_iff lotD_inj]
@[simp] theorem lotsL_inj {a b : List (List Nat)} : lotsL a = lotsL b ↔ a = b := by simp [lotsL, map_inj_iff lotD_inj]
@[simp] theorem dwD_inj : ∀ {a b : Bool}, dwD a = dwD b ↔ a = b
  | true, true => by simp
  | false, false => by simp
  | true, false => by simp [dwD, tw_ne.1]
  | false, true => by simp [dwD, tw_ne.2]
@[simp] theorem deedD_inj : ∀ {a b : Deed}, deedD a = deedD b ↔ a = b
  | (x, y, l), (x', y', l') => by simp [deedD, nD_inj, dwD_inj]
@[simp] theorem deedsD_inj {a b : List Deed} : deedsD a = deedsD b ↔ a = b := by simp [deedsD, map_inj_iff deedD_inj]
@[simp] theorem deedsL_inj {a b : List Deed} : deedsL a = deedsL b ↔ a = b := by simp [deedsL, map_inj_iff deedD_inj]
@[simp] theorem hrD_inj : ∀ {a b : Nat × Plc}, hrD a = hrD b ↔ a = b
  | (x, y), (x', y') => by simp [hrD, nD_inj, placeD_inj]
@[simp] theorem rowD_inj {a b : Row} : rowD a = rowD b ↔ a = b := by simp [rowD, map_inj_iff hrD_inj]
@[simp] theorem rowL_inj {a b : Row} : rowL a = rowL b ↔ a = b := by simp [rowL, map_inj_iff hrD_inj]
/-! ### == on such data -/
theorem eqv_all {α : Type} [DecidableEq α] (enc : α → PyData) (he : ∀ a b, PyData.eqv (enc a) (enc b) = decide (a = b)) : ∀ xs ys : List α, PyData.eqvAll (xs.map enc) (ys.map enc) = decide (xs = ys)
  | [], [] => by simp [PyData.eqvAll]
  | [], _ :: _ => by simp [PyData.eqvAll]
  | _ :: _, [] => by simp [PyData.eqvAll]
  | x :: xs, y :: ys => by simp [PyData.eqvAll, he, eqv_all enc he xs ys]
@[simp] theorem eqv_n (a b : Nat) : PyData.eqv (nD a) (nD b) = decide (a = b) := by
  simp only [nD, PyData.eqv]
  by_cases h : a = b
  · simp [h]
  · simp [h] <;> omega
@[simp] theorem eqv_str (a b : Str) : PyData.eqv (.str a) (.str b) = decide (a = b) := by
  simp only [PyData.eqv]
  by_cases h : a = b <;> simp [h]
@[simp] theorem eqv_place : ∀ a b : Plc, PyData.eqv (placeD a) (placeD b) = decide (a = b)
  | none, none => by simp [placeD, PyData.eqv]
  | none, some (h, r) => by simp [placeD, PyData.eqv]
  | some (h, r), none => by simp [placeD, PyData.eqv]
  | some (h, r), some (h', r') => by simp [placeD, PyData.eqv, PyData.eqvAll, eqv_n]
@[simp] theorem eqv_forest (a b : Forest) : PyData.eqv (forestD a) (forestD b) = decide (a = b) := by simp [forestD, PyData.eqv, eqv_all placeD eqv_place]
@[simp] theorem eqv_lot (a b : List Nat) : PyData.eqv (lotD a) (lotD b) = decide (a = b) := by simp [lotD, PyData.eqv, eqv_all nD eqv_n]
@[simp] theorem eqv_lotL (a b : List Nat) : PyData.eqv (lotL a) (lotL b) = decide (a = b) := by simp [lotL, PyData.eqv, eqv_all nD eqv_n]
@[simp] theorem eqv_lots (a b : List (List Nat)) : PyData.eqv (lotsD a) (lotsD b) = decide (a = b) := by simp [lotsD, PyData.eqv, eqv_all lotD eqv_lot]
@[simp] theorem eqv_lotsL (a b : List (List Nat)) : PyData.eqv (lotsL a) (lotsL b) = decide (a = b) := by simp [lotsL, PyData.eqv, eqv_all lotD eqv_lot]
@[simp] theorem eqv_0n (r : Nat) : PyData.eqv (.int 0) (nD r) = decide (0 = r) := eqv_n 0 r
@[simp] theorem eqv_n0 (r : Nat) : PyData.eqv (nD r) (.int 0) = decide (r = 0) := eqv_n r 0
@[simp] theorem eqv_sd : ∀ a b : Sd, PyData.eqv (sdD a) (sdD b) = decide (a = b)
  | .apart, .apart => by simp [sdD, PyData.eqv, PyData.eqvAll]
  | .apart, .inn r => by simp [sdD, PyData.eqv, PyData.eqvAll, st_ne.1]
  | .apart, .aro r => by simp [sdD, PyData.eqv, PyData.eqvAll, st_ne.2.1]
  | .inn r, .apart => by simp [sdD, PyData.eqv, PyData.eqvAll, st_ne2.1]
  | .inn r, .inn r' => by simp [sdD, PyData.eqv, PyData.eqvAll, eqv_n]
  | .inn r, .aro r' => by simp [sdD, PyData.eqv, PyData.eqvAll, st_ne.2.2]
  | .aro r, .apart => by simp [sdD, PyData.eqv, PyData.eqvAll, st_ne2.2.1]
  | .aro r, .inn r' => by simp [sdD, PyData.eqv, PyData.eqvAll, st_ne2.2.2]
  | .aro r, .aro r' => by simp [sdD, PyData.eqv, PyData.eqvAll, eqv_n]
/-- membership by == -/
theorem any_eqv {α : Type} [DecidableEq α] (enc : α → PyData) (he : ∀ a b, PyData.eqv (enc a) (enc b) = decide (a = b)) (xs : List α) (a : α) : ((xs.map enc).any fun z => PyData.eqv z (enc a)) = decide (a ∈ xs) := by
  induction xs with
  | nil => simp
  | cons x xs ih =>
    rw [List.map_cons, List.any_cons, ih, he]
    by_cases h : a = x
    · simp [h]
    · have : ¬ x = a := fun e => h e.symm
      simp [h, this]
/-! ### what may be compared -/
theorem ok_n {k n : Nat} : okD k (nD n) := ok_int
theorem ok_place {k : Nat} : ∀ {p : Plc}, okD (k + 1) (placeD p)
  | none => ok_non
  | some (h, r) => ok_tup fun d hd => by
    simp [placeD] at hd
    rcases hd with rfl | rfl <;> exact ok_n
theorem ok_map {α : Type} {enc : α → PyData} {k : Nat} (h : ∀ a, okD k (enc a)) (xs : List α) : okD (k + 1) (.tuple (xs.map enc)) := ok_tup fun d hd => by
  obtain ⟨a, _, rfl⟩ := List.mem_map.mp hd
  exact h a
theorem ok_mapL {α : Type} {enc : α → PyData} {k : Nat} (h : ∀ a, okD k (enc a)) (xs : List α) : okD (k + 1) (.list (xs.map enc)) := ok_lst fun d hd => by
  obtain ⟨a, _, rfl⟩ := List.mem_map.mp hd
  exact h a
theorem ok_forest {k : Nat} {f : Forest} : okD (k + 2) (forestD f) := ok_map (fun _ => ok_place) f
theorem ok_lot {k : Nat} {l : List Nat} : okD (k + 1) (lotD l) := ok_map (fun _ => ok_n) l
theorem ok_lotL {k : Nat} {l : List Nat} : okD (k + 1) (lotL l) := ok_mapL (fun _ => ok_n) l
theorem ok_lots {k : Nat} {l : List (List Nat)} : okD (k + 2) (lotsD l) := ok_map (fun _ => ok_lot) l
theorem ok_lotsL {k : Nat} {l : List (List Nat)} : okD (k + 2) (lotsL l) := ok_mapL (fun _ => ok_lot) l
theorem so1 : PyData.strOk ("apart" : Str) = true := by decide +kernel
theorem so2 : PyData.strOk ("in" : Str) = true := by decide +kernel
theorem so3 : PyData.strOk ("around" : Str) = true := by decide +kernel
theorem so4 : PyData.strOk ("turn" : Str) = true := by decide +kernel
theorem so5 : PyData.strOk ("shift" : Str) = true := by decide +kernel
theorem ok_pair {k : Nat} {x : Str} {n : Nat} (h : PyData.strOk x = true) : okD (k + 1) (.tuple [.str x, nD n]) := ok_tup fun d hd => by
  simp at hd
  rcases hd with rfl | rfl
  · exact ok_str h
  · exact ok_n
theorem ok_sd {k : Nat} : ∀ {s : Sd}, okD (k + 1) (sdD s)
  | .apart => ok_pair (n := 0) so1
  | .inn r => ok_pair so2
  | .aro r => ok_pair so3
theorem ok_lets {k : Nat} {l : List Sd} : okD (k + 2) (letsD l) := ok_map (fun _ => ok_sd) l
theorem ok_letsL {k : Nat} {l : List Sd} : okD (k + 2) (letsL l) := ok_mapL (fun _ => ok_sd) l
theorem ok_dw {k : Nat} : ∀ {b : Bool}, okD k (dwD b)
  | true => ok_str so4
  | false => ok_str so5
theorem ok_deed {k : Nat} {d : Deed} : okD (k + 1) (deedD d) := ok_tup fun x hx => by
  simp at hx
  rcases hx with rfl | rfl | rfl
  · exact ok_dw
  · exact ok_n
  · exact ok_n
/-! ### loops and comprehensions, made opaque -/
def ForOf (xs : List PyData) (γ : DTG) (s : DTS) (DD : DEnds) (ρ1 : Env) : Prop := ∃ W : Nat → Env → Prop, W 0 ρ1 ∧
  (∀ i x ρ', xs[i]? = some x → W i ρ' → γ.t x ρ' fun ρ2 => s { DD with nx := W (i + 1), ct := W (i + 1), bk := DD.nx } ρ2) ∧ ∀ ρ', W xs.length ρ' → DD.nx ρ'
@[simp] theorem dFor_eq {ι : DTA} {γ : DTG} {s : DTS} : dFor ι γ s = fun DD ρ => ι ρ fun xs ρ1 => ForOf xs γ s DD ρ1 := rfl
theorem forOf_map {α : Type} (items : List α) (enc : α → PyData) {γ : DTG} {s : DTS} {DD : DEnds} {ρ1 : Env} (W : Nat → Env → Prop) (h0 : W 0 ρ1)
    (step : ∀ i a ρ', items[i]? = some a → W i ρ' → γ.t (enc a) ρ' fun ρ2 => s { DD with nx := W (i + 1), ct := W (i + 1), bk := DD.nx } ρ2) (done : ∀ ρ', W items.length ρ' → DD.nx ρ') : ForOf (items.map enc) γ s DD ρ1 :=
  ⟨W, h0, fun i x ρ' hx w => by
    rw [List.getElem?_map, Option.map_eq_some_iff] at hx
    obtain ⟨a, ha, rfl⟩ := hx
    exact step i a ρ' ha w, fun ρ' w => done ρ' (by rwa [List.length_map] at w)⟩
theorem intsD_eq (n : Nat) : intsD 0 n = (List.range n).map nD := by
  unfold intsD nD
  apply List.map_congr_left
  intro i _
  rw [Int.zero_add]
theorem forOf_ints {n : Nat} {γ : DTG} {s : DTS} {DD : DEnds} {ρ1 : Env} (W : Nat → Env → Prop) (h0 : W 0 ρ1)
    (step : ∀ i ρ', i < n → W i ρ' → γ.t (nD i) ρ' fun ρ2 => s { DD with nx := W (i + 1), ct := W (i + 1), bk := DD.nx } ρ2) (done : ∀ ρ', W n ρ' → DD.nx ρ') : ForOf (intsD 0 n) γ s DD ρ1 := by
  rw [intsD_eq]
  refine forOf_map _ _ W h0 (fun i a ρ' ha w => ?_) fun ρ' w => done ρ' (by rwa [List.length_range] at w)
  obtain ⟨h1, h2⟩ := List.getElem?_eq_some_iff.mp ha
  rw [List.getElem_range] at h2
  subst h2
  exact step i ρ' (by simpa using h1) w
theorem forOf_enum {α : Type} (items : List α) (enc : α → PyData) {γ : DTG} {s : DTS} {DD : DEnds} {ρ1 : Env} (W : Nat → Env → Prop) (h0 : W 0 ρ1)
    (step : ∀ i a ρ', items[i]? = some a → W i ρ' → γ.t (.tuple [nD i, enc a]) ρ' fun ρ2 => s { DD with nx := W (i + 1), ct := W (i + 1), bk := DD.nx } ρ2) (done : ∀ ρ', W items.length ρ' → DD.nx ρ') : ForOf (enumD (items.map enc)) γ s DD ρ1 :=
  ⟨W, h0, fun i x ρ' hx w => by
    rw [enumD_get, List.getElem?_map, Option.map_map, Option.map_eq_some_iff] at hx
    obtain ⟨a, ha, rfl⟩ := hx
    exact step i a ρ' ha w, fun ρ' w => done ρ' (by simpa [enumD] using w)⟩
def WhileOf (τ : DTT) (s : DTS) (DD : DEnds) (ρ : Env) : Prop := ∃ W : Nat → Env → Prop, (∃ m, W m ρ) ∧ ∀ m ρ, W m ρ →
  τ ρ fun b ρ1 => if b = true then s { DD with nx := fun ρ' => ∃ m', m' < m ∧ W m' ρ', ct := fun ρ' => ∃ m', m' < m ∧ W m' ρ', bk := DD.nx } ρ1 else DD.nx ρ1
@[simp] theorem dWhile_eq {τ : DTT} {s : DTS} : dWhile τ s = fun DD ρ => WhileOf τ s DD ρ := rfl
def LcOf (xs : List PyData) (γ : DTG) (τ : DTT) (ε : DTE) (vs : List Nat) (ρ1 : Env) (k : Slot → Env → Prop) : Prop := xs.length ≤ 1000000 ∧ (∀ i ∈ vs, (ρ1.getD i .no).ads = []) ∧ (∀ j ∈ γ.js, j ∈ vs) ∧ ∃ W : Nat → List PyData → Env → Prop, W 0 [] (wipeD ρ1 vs) ∧
  (∀ i x acc ρ', xs[i]? = some x → W i acc ρ' → γ.t x ρ' fun ρ2 => τ ρ2 fun b ρ3 => if b = true then ε ρ3 fun z ρ4 => W (i + 1) (acc ++ [z]) (wipeD ρ4 vs) else W (i + 1) acc (wipeD ρ3 vs)) ∧
  ∀ acc ρ', W xs.length acc ρ' → ∀ l, k (.lst l acc) (mergeD ρ1 ρ' vs)
@[simp] theorem dLc_eq {ι : DTA} {γ : DTG} {τ : DTT} {ε : DTE} {vs : List Nat} : dLc ι γ τ ε vs = fun ρ k => ι ρ fun xs ρ1 => LcOf xs γ τ ε vs ρ1 k := rfl
def PubOf (s : Slot) (ρ1 : Env) (k : PyData → Env → Prop) : Prop := ∃ p, s.pub = some p ∧ k p.2 ρ1
@[simp] theorem dPub_eq {δ : DTF} : dPub δ = fun ρ k => δ ρ fun s ρ1 => PubOf s ρ1 k := rfl
@[simp] theorem pub_lst {l : Addr} {ds : List PyData} {ρ : Env} {k : PyData → Env → Prop} : PubOf (.lst l ds) ρ k = k (.list ds) ρ := propext ⟨fun ⟨p, e, h⟩ => by cases e; exact h, fun h => ⟨_, rfl, h⟩⟩
@[simp] theorem pub_dT {l : Addr} {ds : List (PyData × PyData)} {ρ : Env} {k : PyData → Env → Prop} : PubOf (.dT l ds) ρ k = k (.dict ds) ρ := propext ⟨fun ⟨p, e, h⟩ => by cases e; exact h, fun h => ⟨_, rfl, h⟩⟩
@[simp] theorem dGive_eq {i : Nat} : dGive i = fun ρ k => ∃ s, ρ[i]? = some s ∧ PubOf s (ρ.set i .no) k := by
  funext ρ k
  exact propext ⟨fun ⟨s, p, h1, h2, h3⟩ => ⟨s, h1, p, h2, h3⟩, fun ⟨s, h1, p, h2, h3⟩ => ⟨s, p, h1, h2, h3⟩⟩
@[simp] theorem gsC_cons {γ : DTG} {γs : DTGs} {d : PyData} {r : List PyData} {ρ : Env} {k : Env → Prop} : (gsC γ γs).t (d :: r) ρ k = γ.t d ρ fun ρ1 => γs.t r ρ1 k := propext ⟨fun ⟨d', r', e, h⟩ => by cases e; exact h, fun h => ⟨_, _, rfl, h⟩⟩
@[simp] theorem gs0_nil {ρ : Env} {k : Env → Prop} : gs0.t [] ρ k = k ρ := propext ⟨fun h => h.2, fun h => ⟨rfl, h⟩⟩
@[simp] theorem gT_tup {n : Nat} {γs : DTGs} {ds : List PyData} {ρ : Env} {k : Env → Prop} : (gT n γs).t (.tuple ds) ρ k = (ds.length = n ∧ γs.t ds ρ k) := propext ⟨fun ⟨d', e, h⟩ => by cases e; exact h, fun h => ⟨_, rfl, h⟩⟩
@[simp] theorem gN_t {i : Nat} {d : PyData} {ρ : Env} {k : Env → Prop} : (gN i).t d ρ k = k (ρ.set i (.dat d)) := rfl
@[simp] theorem gsC_js {γ : DTG} {γs : DTGs} : (gsC γ γs).js = γ.js ++ γs.js := rfl
@[simp] theorem gs0_js : gs0.js = [] := rfl
@[simp] theorem gT_js {n : Nat} {γs : DTGs} : (gT n γs).js = γs.js := rfl
@[simp] theorem gN_js {i : Nat} : (gN i).js = [i] := rfl
@[simp] theorem items_t {ds : List PyData} : items (.tuple ds) = some ds := rfl
@[simp] theorem items_l {ds : List PyData} : items (.list ds) = some ds := rfl
@[simp] theorem isN_n : isN .none = true := rfl
@[simp] theorem isN_t {ds : List PyData} : isN (.tuple ds) = false := rfl
@[simp] theorem isN_i {i : Int} : isN (.int i) = false := rfl
@[simp] theorem isN_nD {i : Nat} : isN (nD i) = false := rfl
@[simp] theorem isN_p0 : isN (placeD none) = true := rfl
@[simp] theorem isN_p1 {p : Nat × Nat} : isN (placeD (some p)) = false := rfl
@[simp] theorem ty_t {ds : List PyData} : tyD (.tuple ds) = "tuple" := rfl
@[simp] theorem ty_i {i : Int} : tyD (.int i) = "int" := rfl
@[simp] theorem ty_n {i : Nat} : tyD (nD i) = "int" := rfl
@[simp] theorem ty_s {x : Str} : tyD (.str x) = "str" := rfl
@[simp] theorem ty_dw {b : Bool} : tyD (dwD b) = "str" := by cases b <;> rfl
@[simp] theorem ty_p {p : Nat × Nat} : tyD (placeD (some p)) = "tuple" := rfl
@[simp] theorem nd_p {p : Plc} {es : List (PyData × PyData)} : (placeD p = .dict es) = False := by cases p <;> simp [placeD]
@[simp] theorem nd_n {p : Nat} {es : List (PyData × PyData)} : (nD p = .dict es) = False := by simp [nD]
@[simp] theorem nd_dw {p : Bool} {es : List (PyData × PyData)} : (dwD p = .dict es) = False := by simp [dwD]
@[simp] theorem it_p {p : Nat × Nat} : items (placeD (some p)) = some [nD p.1, nD p.2] := rfl
@[simp] theorem tu_p {p : Nat × Nat} {xs : List PyData} : (placeD (some p) = .tuple xs) = ([nD p.1, nD p.2] = xs) := by simp [placeD]
@[simp] theorem ty_sd {s : Sd} : tyD (sdD s) = "tuple" := by cases s <;> rfl
@[simp] theorem nd_sd {s : Sd} {es : List (PyData × PyData)} : (sdD s = .dict es) = False := by cases s <;> simp [sdD]
@[simp] theorem it_fo {f : Forest} : items (forestD f) = some (f.map placeD) := rfl
@[simp] theorem ty_fo {f : Forest} : tyD (forestD f) = "tuple" := rfl
@[simp] theorem nd_fo {f : Forest} {es : List (PyData × PyData)} : (forestD f = .dict es) = False := eq_false nofun
@[simp] theorem tu_fo {f : Forest} {xs : List PyData} : (forestD f = .tuple xs) = ((f.map placeD) = xs) := propext ⟨fun h => by injection h, fun h => by rw [← h]; rfl⟩
@[simp] theorem ni_fo {f : Forest} : isN (forestD f) = false := rfl
@[simp] theorem it_lo {l : List Nat} : items (lotD l) = some (l.map nD) := rfl
@[simp] theorem ty_lo {l : List Nat} : tyD (lotD l) = "tuple" := rfl
@[simp] theorem nd_lo {l : List Nat} {es : List (PyData × PyData)} : (lotD l = .dict es) = False := eq_false nofun
@[simp] theorem tu_lo {l : List Nat} {xs : List PyData} : (lotD l = .tuple xs) = ((l.map nD) = xs) := propext ⟨fun h => by injection h, fun h => by rw [← h]; rfl⟩
@[simp] theorem ni_lo {l : List Nat} : isN (lotD l) = false := rfl
@[simp] theorem it_loL {l : List Nat} : items (lotL l) = some (l.map nD) := rfl
@[simp] theorem ty_loL {l : List Nat} : tyD (lotL l) = "list" := rfl
@[simp] theorem nd_loL {l : List Nat} {es : List (PyData × PyData)} : (lotL l = .dict es) = False := eq_false nofun
@[simp] theorem tu_loL {l : List Nat} {xs : List PyData} : (lotL l = .list xs) = ((l.map nD) = xs) := propext ⟨fun h => by injection h, fun h => by rw [← h]; rfl⟩
@[simp] theorem ni_loL {l : List Nat} : isN (lotL l) = false := rfl
@[simp] theorem it_le {l : List Sd} : items (letsD l) = some (l.map sdD) := rfl
@[simp] theorem ty_le {l : List Sd} : tyD (letsD l) = "tuple" := rfl
@[simp] theorem nd_le {l : List Sd} {es : List (PyData × PyData)} : (letsD l = .dict es) = False := eq_false nofun
@[simp] theorem tu_le {l : List Sd} {xs : List PyData} : (letsD l = .tuple xs) = ((l.map sdD) = xs) := propext ⟨fun h => by injection h, fun h => by rw [← h]; rfl⟩
@[simp] theorem ni_le {l : List Sd} : isN (letsD l) = false := rfl
@[simp] theorem it_leL {l : List Sd} : items (letsL l) = some (l.map sdD) := rfl
@[simp] theorem ty_leL {l : List Sd} : tyD (letsL l) = "list" := rfl
@[simp] theorem nd_leL {l : List Sd} {es : List (PyData × PyData)} : (letsL l = .dict es) = False := eq_false nofun
@[simp] theorem tu_leL {l : List Sd} {xs : List PyData} : (letsL l = .list xs) = ((l.map sdD) = xs) := propext ⟨fun h => by injection h, fun h => by rw [← h]; rfl⟩
@[simp] theorem ni_leL {l : List Sd} : isN (letsL l) = false := rfl
@[simp] theorem it_ss {l : List Say} : items (saysD l) = some (l.map sayD) := rfl
@[simp] theorem ty_ss {l : List Say} : tyD (saysD l) = "tuple" := rfl
@[simp] theorem nd_ss {l : List Say} {es : List (PyData × PyData)} : (saysD l = .dict es) = False := eq_false nofun
@[simp] theorem tu_ss {l : List Say} {xs : List PyData} : (saysD l = .tuple xs) = ((l.map sayD) = xs) := propext ⟨fun h => by injection h, fun h => by rw [← h]; rfl⟩
@[simp] theorem ni_ss {l : List Say} : isN (saysD l) = false := rfl
@[simp] theorem it_ssL {l : List Say} : items (saysL l) = some (l.map sayD) := rfl
@[simp] theorem ty_ssL {l : List Say} : tyD (saysL l) = "list" := rfl
@[simp] theorem nd_ssL {l : List Say} {es : List (PyData × PyData)} : (saysL l = .dict es) = False := eq_false nofun
@[simp] theorem tu_ssL {l : List Say} {xs : List PyData} : (saysL l = .list xs) = ((l.map sayD) = xs) := propext ⟨fun h => by injection h, fun h => by rw [← h]; rfl⟩
@[simp] theorem ni_ssL {l : List Say} : isN (saysL l) = false := rfl
@[simp] theorem it_ls {l : List (List Nat)} : items (lotsD l) = some (l.map lotD) := rfl
@[simp] theorem ty_ls {l : List (List Nat)} : tyD (lotsD l) = "tuple" := rfl
@[simp] theorem nd_ls {l : List (List Nat)} {es : List (PyData × PyData)} : (lotsD l = .dict es) = False := eq_false nofun
@[simp] theorem tu_ls {l : List (List Nat)} {xs : List PyData} : (lotsD l = .tuple xs) = ((l.map lotD) = xs) := propext ⟨fun h => by injection h, fun h => by rw [← h]; rfl⟩
@[simp] theorem ni_ls {l : List (List Nat)} : isN (lotsD l) = false := rfl
@[simp] theorem it_lsL {l : List (List Nat)} : items (lotsL l) = some (l.map lotD) := rfl
@[simp] theorem ty_lsL {l : List (List Nat)} : tyD (lotsL l) = "list" := rfl
@[simp] theorem nd_lsL {l : List (List Nat)} {es : List (PyData × PyData)} : (lotsL l = .dict es) = False := eq_false nofun
@[simp] theorem tu_lsL {l : List (List Nat)} {xs : List PyData} : (lotsL l = .list xs) = ((l.map lotD) = xs) := propext ⟨fun h => by injection h, fun h => by rw [← h]; rfl⟩
@[simp] theorem ni_lsL {l : List (List Nat)} : isN (lotsL l) = false := rfl
@[simp] theorem it_dd {l : List Deed} : items (deedsD l) = some (l.map deedD) := rfl
@[simp] theorem ty_dd {l : List Deed} : tyD (deedsD l) = "tuple" := rfl
@[simp] theorem nd_dd {l : List Deed} {es : List (PyData × PyData)} : (deedsD l = .dict es) = False := eq_false nofun
@[simp] theorem tu_dd {l : List Deed} {xs : List PyData} : (deedsD l = .tuple xs) = ((l.map deedD) = xs) := propext ⟨fun h => by injection h, fun h => by rw [← h]; rfl⟩
@[simp] theorem ni_dd {l : List Deed} : isN (deedsD l) = false := rfl
@[simp] theorem it_ddL {l : List Deed} : items (deedsL l) = some (l.map deedD) := rfl
@[simp] theorem ty_ddL {l : List Deed} : tyD (deedsL l) = "list" := rfl
@[simp] theorem nd_ddL {l : List Deed} {es : List (PyData × PyData)} : (deedsL l = .dict es) = False := eq_false nofun
@[simp] theorem tu_ddL {l : List Deed} {xs : List PyData} : (deedsL l = .list xs) = ((l.map deedD) = xs) := propext ⟨fun h => by injection h, fun h => by rw [← h]; rfl⟩
@[simp] theorem ni_ddL {l : List Deed} : isN (deedsL l) = false := rfl
@[simp] theorem it_rw {l : Row} : items (rowD l) = some (l.map hrD) := rfl
@[simp] theorem ty_rw {l : Row} : tyD (rowD l) = "tuple" := rfl
@[simp] theorem nd_rw {l : Row} {es : List (PyData × PyData)} : (rowD l = .dict es) = False := eq_false nofun
@[simp] theorem tu_rw {l : Row} {xs : List PyData} : (rowD l = .tuple xs) = ((l.map hrD) = xs) := propext ⟨fun h => by injection h, fun h => by rw [← h]; rfl⟩
@[simp] theorem ni_rw {l : Row} : isN (rowD l) = false := rfl
@[simp] theorem it_rwL {l : Row} : items (rowL l) = some (l.map hrD) := rfl
@[simp] theorem ty_rwL {l : Row} : tyD (rowL l) = "list" := rfl
@[simp] theorem nd_rwL {l : Row} {es : List (PyData × PyData)} : (rowL l = .dict es) = False := eq_false nofun
@[simp] theorem tu_rwL {l : Row} {xs : List PyData} : (rowL l = .list xs) = ((l.map hrD) = xs) := propext ⟨fun h => by injection h, fun h => by rw [← h]; rfl⟩
@[simp] theorem ni_rwL {l : Row} : isN (rowL l) = false := rfl
@[simp] theorem it_sy {s : Say} : items (sayD s) = some [nD s.1, nD s.2.1, letsD s.2.2] := rfl
@[simp] theorem ty_sy {s : Say} : tyD (sayD s) = "tuple" := rfl
@[simp] theorem nd_sy {s : Say} {es : List (PyData × PyData)} : (sayD s = .dict es) = False := eq_false nofun
@[simp] theorem tu_sy {s : Say} {xs : List PyData} : (sayD s = .tuple xs) = ([nD s.1, nD s.2.1, letsD s.2.2] = xs) := propext ⟨fun h => by injection h, fun h => by rw [← h]; rfl⟩
@[simp] theorem ni_sy {s : Say} : isN (sayD s) = false := rfl
@[simp] theorem it_bk {R : List Nat} {ss : List Say} : items (bookD R ss) = some [lotD R, saysD ss] := rfl
@[simp] theorem ty_bk {R : List Nat} {ss : List Say} : tyD (bookD R ss) = "tuple" := rfl
@[simp] theorem nd_bk {R : List Nat} {ss : List Say} {es : List (PyData × PyData)} : (bookD R ss = .dict es) = False := eq_false nofun
@[simp] theorem tu_bk {R : List Nat} {ss : List Say} {xs : List PyData} : (bookD R ss = .tuple xs) = ([lotD R, saysD ss] = xs) := propext ⟨fun h => by injection h, fun h => by rw [← h]; rfl⟩
@[simp] theorem ni_bk {R : List Nat} {ss : List Say} : isN (bookD R ss) = false := rfl
@[simp] theorem it_wo {R : List Nat} {L : Tab} : items (worldD R L) = some [lotD R, dictD (tabM letsD R.length L), lotsD (near R.length L)] := rfl
@[simp] theorem ty_wo {R : List Nat} {L : Tab} : tyD (worldD R L) = "tuple" := rfl
@[simp] theorem nd_wo {R : List Nat} {L : Tab} {es : List (PyData × PyData)} : (worldD R L = .dict es) = False := eq_false nofun
@[simp] theorem tu_wo {R : List Nat} {L : Tab} {xs : List PyData} : (worldD R L = .tuple xs) = ([lotD R, dictD (tabM letsD R.length L), lotsD (near R.length L)] = xs) := propext ⟨fun h => by injection h, fun h => by rw [← h]; rfl⟩
@[simp] theorem ni_wo {R : List Nat} {L : Tab} : isN (worldD R L) = false := rfl
@[simp] theorem it_de {d : Deed} : items (deedD d) = some [dwD d.1, nD d.2.1, nD d.2.2] := rfl
@[simp] theorem ty_de {d : Deed} : tyD (deedD d) = "tuple" := rfl
@[simp] theorem nd_de {d : Deed} {es : List (PyData × PyData)} : (deedD d = .dict es) = False := eq_false nofun
@[simp] theorem tu_de {d : Deed} {xs : List PyData} : (deedD d = .tuple xs) = ([dwD d.1, nD d.2.1, nD d.2.2] = xs) := propext ⟨fun h => by injection h, fun h => by rw [← h]; rfl⟩
@[simp] theorem ni_de {d : Deed} : isN (deedD d) = false := rfl
@[simp] theorem it_hr {p : Nat × Plc} : items (hrD p) = some [nD p.1, placeD p.2] := rfl
@[simp] theorem ty_hr {p : Nat × Plc} : tyD (hrD p) = "tuple" := rfl
@[simp] theorem nd_hr {p : Nat × Plc} {es : List (PyData × PyData)} : (hrD p = .dict es) = False := eq_false nofun
@[simp] theorem tu_hr {p : Nat × Plc} {xs : List PyData} : (hrD p = .tuple xs) = ([nD p.1, placeD p.2] = xs) := propext ⟨fun h => by injection h, fun h => by rw [← h]; rfl⟩
@[simp] theorem ni_hr {p : Nat × Plc} : isN (hrD p) = false := rfl
/-- a comprehension whose turns leave the names as they stand -/
theorem lcOf_map {α : Type} (items : List α) (enc : α → PyData) (p : α → Bool) (g : α → PyData) {γ : DTG} {τ : DTT} {ε : DTE} {vs : List Nat} {ρ1 : Env} {k : Slot → Env → Prop} (hl : items.length ≤ 1000000)
    (ha : ∀ i ∈ vs, (ρ1.getD i .no).ads = []) (hj : ∀ j ∈ γ.js, j ∈ vs)
    (turn : ∀ a ∈ items, ∀ (Y : PyData → Env → Prop) (N : Env → Prop), (∀ ρ', wipeD ρ' vs = wipeD ρ1 vs → p a = true → Y (g a) ρ') → (∀ ρ', wipeD ρ' vs = wipeD ρ1 vs → p a = false → N ρ') →
      γ.t (enc a) (wipeD ρ1 vs) fun ρ2 => τ ρ2 fun b ρ3 => if b = true then ε ρ3 Y else N ρ3)
    (done : ∀ l, k (.lst l ((items.filter p).map g)) ρ1) : LcOf (items.map enc) γ τ ε vs ρ1 k := lc_of items enc p g rfl hl ha hj turn done
theorem lcOf_all {α : Type} (items : List α) (enc : α → PyData) (g : α → PyData) {γ : DTG} {ε : DTE} {vs : List Nat} {ρ1 : Env} {k : Slot → Env → Prop} (hl : items.length ≤ 1000000)
    (ha : ∀ i ∈ vs, (ρ1.getD i .no).ads = []) (hj : ∀ j ∈ γ.js, j ∈ vs)
    (turn : ∀ a ∈ items, ∀ (Y : PyData → Env → Prop), (∀ ρ', wipeD ρ' vs = wipeD ρ1 vs → Y (g a) ρ') → γ.t (enc a) (wipeD ρ1 vs) fun ρ2 => ε ρ2 Y)
    (done : ∀ l, k (.lst l (items.map g)) ρ1) : LcOf (items.map enc) γ dYes ε vs ρ1 k := lc_all items enc g rfl hl ha hj turn done
@[simp] theorem nD_int {a : Nat} {i : Int} : (nD a = .int i) = ((a : Int) = i) := propext ⟨fun h => PyData.int.inj h, fun h => by rw [← h]; rfl⟩
@[simp] theorem int_nD {a : Nat} {i : Int} : (.int i = nD a) = (i = (a : Int)) := propext ⟨fun h => PyData.int.inj h, fun h => by rw [h]; rfl⟩
@[simp] theorem nlt0 {a : Nat} : ((a : Int) < 0) = False := eq_false (by omega)
@[simp] theorem n0le {a : Nat} : (0 ≤ (a : Int)) = True := eq_true (by omega)
@[simp] theorem nlt {a b : Nat} : ((a : Int) < (b : Int)) = (a < b) := propext (by omega)
@[simp] theorem nle {a b : Nat} : ((a : Int) ≤ (b : Int)) = (a ≤ b) := propext (by omega)
@[simp] theorem nle4 {a : Nat} : ((a : Int) ≤ 4) = (a ≤ 4) := propext (by omega)
@[simp] theorem nlt4 {a : Nat} : (4 < (a : Int)) = (4 < a) := propext (by omega)
@[simp] theorem nle24 {a : Nat} : ((a : Int) ≤ 24) = (a ≤ 24) := propext (by omega)
@[simp] theorem nlt24 {a : Nat} : (24 < (a : Int)) = (24 < a) := propext (by omega)
@[simp] theorem nlt00 {a : Nat} : (0 < (a : Int)) = (0 < a) := propext (by omega)
@[simp] theorem nle00 {a : Nat} : ((a : Int) ≤ 0) = (a = 0) := propext (by omega)
@[simp] theorem c0n {n : Nat} : ((0 : Int) = (n : Int)) = (n = 0) := propext (by omega)
@[simp] theorem c1n {n : Nat} : ((1 : Int) = (n : Int)) = (n = 1) := propext (by omega)
@[simp] theorem c2n {n : Nat} : ((2 : Int) = (n : Int)) = (n = 2) := propext (by omega)
@[simp] theorem csn {m n : Nat} : ((m : Int) + 1 = (n : Int)) = (n = m + 1) := propext (by omega)
@[simp] theorem okI {k : Nat} {i : Int} : okD k (.int i) = True := eq_true ok_int
@[simp] theorem okB {k : Nat} {i : Bool} : okD k (.bool i) = True := eq_true ok_bool
@[simp] theorem okN {k : Nat} : okD k .none = True := eq_true ok_non
@[simp] theorem okn {k n : Nat} : okD k (nD n) = True := eq_true ok_n
@[simp] theorem oks1 {k : Nat} : okD k (.str "apart") = True := eq_true (ok_str so1)
@[simp] theorem oks2 {k : Nat} : okD k (.str "in") = True := eq_true (ok_str so2)
@[simp] theorem oks3 {k : Nat} : okD k (.str "around") = True := eq_true (ok_str so3)
@[simp] theorem oks4 {k : Nat} : okD k (.str "turn") = True := eq_true (ok_str so4)
@[simp] theorem oks5 {k : Nat} : okD k (.str "shift") = True := eq_true (ok_str so5)
@[simp] theorem okPl {p : Plc} : okD 60 (placeD p) = True := eq_true (ok_place (k := 59))
@[simp] theorem okPl9 {p : Plc} : okD 59 (placeD p) = True := eq_true (ok_place (k := 58))
@[simp] theorem okF {f : Forest} : okD 60 (forestD f) = True := eq_true (ok_forest (k := 58))
@[simp] theorem okLo {l : List Nat} : okD 60 (lotD l) = True := eq_true (ok_lot (k := 59))
@[simp] theorem okLo9 {l : List Nat} : okD 59 (lotD l) = True := eq_true (ok_lot (k := 58))
@[simp] theorem okLL {l : List Nat} : okD 60 (lotL l) = True := eq_true (ok_lotL (k := 59))
@[simp] theorem okLos {l : List (List Nat)} : okD 60 (lotsD l) = True := eq_true (ok_lots (k := 58))
@[simp] theorem okLsL {l : List (List Nat)} : okD 60 (lotsL l) = True := eq_true (ok_lotsL (k := 58))
@[simp] theorem okSd {s : Sd} : okD 60 (sdD s) = True := eq_true (ok_sd (k := 59))
@[simp] theorem okSd9 {s : Sd} : okD 59 (sdD s) = True := eq_true (ok_sd (k := 58))
@[simp] theorem okLe {l : List Sd} : okD 60 (letsD l) = True := eq_true (ok_lets (k := 58))
@[simp] theorem okDd {d : Deed} : okD 60 (deedD d) = True := eq_true (ok_deed (k := 59))
@[simp] theorem okDw {b : Bool} {k : Nat} : okD k (dwD b) = True := eq_true ok_dw
@[simp] theorem okNil {k : Nat} : okD (k + 1) (.list []) = True := eq_true (ok_lst fun d hd => by cases hd)
@[simp] theorem okNil0 : okD 60 (.list []) = True := eq_true (ok_lst (n := 59) fun d hd => by cases hd)
@[simp] theorem okNilT : okD 60 (.tuple []) = True := eq_true (ok_tup (n := 59) fun d hd => by cases hd)
@[simp] theorem eqv_int (a b : Int) : PyData.eqv (.int a) (.int b) = decide (a = b) := by
  simp only [PyData.eqv]
  by_cases h : a = b <;> simp [h]
@[simp] theorem eqv_ni (a : Nat) (b : Int) : PyData.eqv (nD a) (.int b) = decide ((a : Int) = b) := eqv_int _ _
@[simp] theorem eqv_in (a : Int) (b : Nat) : PyData.eqv (.int a) (nD b) = decide (a = (b : Int)) := eqv_int _ _
@[simp] theorem eqv_nil {α : Type} (xs : List α) (enc : α → PyData) : PyData.eqv (.list (xs.map enc)) (.list []) = xs.isEmpty := by cases xs <;> simp [PyData.eqv, PyData.eqvAll]
@[simp] theorem eqv_nilT {α : Type} (xs : List α) (enc : α → PyData) : PyData.eqv (.tuple (xs.map enc)) (.tuple []) = xs.isEmpty := by cases xs <;> simp [PyData.eqv, PyData.eqvAll]
@[simp] theorem eqv_lotNil (l : List Nat) : PyData.eqv (lotD l) (.tuple []) = l.isEmpty := eqv_nilT l nD
@[simp] theorem eqv_tr (b : Bool) : PyData.eqv (.bool b) (.bool true) = b := by cases b <;> simp [PyData.eqv]
theorem getI {R : List Nat} {i : Nat} (h : i < R.length) : R[i]? = some (R.getD i 0) := by
  rw [List.getElem?_eq_getElem h, List.getD_eq_getElem?_getD, List.getElem?_eq_getElem h]
  rfl
theorem getP {f : Forest} {i : Nat} (h : i < f.length) : f[i]? = some (up f i) := by
  unfold up
  rw [List.getElem?_eq_getElem h, List.getD_eq_getElem?_getD, List.getElem?_eq_getElem h]
  rfl
def AnyEq (ds : List PyData) (x : PyData) : Bool := ds.any fun z => PyData.eqv z x
def Ok59 (ds : List PyData) : Prop := ∀ d ∈ ds, okD 59 d
@[simp] theorem dIn_eq : dIn = fun x y k => ∃ ds, items y = some ds ∧ okD 60 x ∧ Ok59 ds ∧ k (.bool (AnyEq ds x)) := rfl
@[simp] theorem dNotIn_eq : dNotIn = fun x y k => ∃ ds, items y = some ds ∧ okD 60 x ∧ Ok59 ds ∧ k (.bool (!AnyEq ds x)) := rfl
@[simp] theorem any_n {l : List Nat} {x : Nat} : AnyEq (l.map nD) (nD x) = decide (x ∈ l) := any_eqv nD eqv_n l x
@[simp] theorem any_sd {l : List Sd} {x : Sd} : AnyEq (l.map sdD) (sdD x) = decide (x ∈ l) := any_eqv sdD eqv_sd l x
@[simp] theorem any_ap {l : List Sd} : AnyEq (l.map sdD) (.tuple [.str "apart", .int 0]) = decide (Sd.apart ∈ l) := any_eqv sdD eqv_sd l .apart
@[simp] theorem any_ar {l : List Sd} {r : Nat} : AnyEq (l.map sdD) (.tuple [.str "around", nD r]) = decide (Sd.aro r ∈ l) := any_eqv sdD eqv_sd l (.aro r)
@[simp] theorem o59_n {l : List Nat} : Ok59 (l.map nD) = True := eq_true fun d hd => by
  obtain ⟨a, _, rfl⟩ := List.mem_map.mp hd
  exact ok_n
@[simp] theorem o59_sd {l : List Sd} : Ok59 (l.map sdD) = True := eq_true fun d hd => by
  obtain ⟨a, _, rfl⟩ := List.mem_map.mp hd
  exact ok_sd (k := 58)
@[simp] theorem gT_p {n : Nat} {γs : DTGs} {p : Nat × Nat} {ρ : Env} {k : Env → Prop} : (gT n γs).t (placeD (some p)) ρ k = (2 = n ∧ γs.t [nD p.1, nD p.2] ρ k) := gT_tup
@[simp] theorem gT_sy {n : Nat} {γs : DTGs} {s : Say} {ρ : Env} {k : Env → Prop} : (gT n γs).t (sayD s) ρ k = (3 = n ∧ γs.t [nD s.1, nD s.2.1, letsD s.2.2] ρ k) := gT_tup
@[simp] theorem gT_de {n : Nat} {γs : DTGs} {d : Deed} {ρ : Env} {k : Env → Prop} : (gT n γs).t (deedD d) ρ k = (3 = n ∧ γs.t [dwD d.1, nD d.2.1, nD d.2.2] ρ k) := gT_tup
@[simp] theorem gT_hr {n : Nat} {γs : DTGs} {p : Nat × Plc} {ρ : Env} {k : Env → Prop} : (gT n γs).t (hrD p) ρ k = (2 = n ∧ γs.t [nD p.1, placeD p.2] ρ k) := gT_tup
@[simp] theorem gT_bk {n : Nat} {γs : DTGs} {R : List Nat} {ss : List Say} {ρ : Env} {k : Env → Prop} : (gT n γs).t (bookD R ss) ρ k = (2 = n ∧ γs.t [lotD R, saysD ss] ρ k) := gT_tup
def sdW : Sd → Str
  | .apart => "apart"
  | .inn _ => "in"
  | .aro _ => "around"
def sdR : Sd → Nat
  | .apart => 0
  | .inn r => r
  | .aro r => r
theorem sdD_eq : ∀ s : Sd, sdD s = .tuple [.str (sdW s), nD (sdR s)]
  | .apart => rfl
  | .inn _ => rfl
  | .aro _ => rfl
@[simp] theorem gT_sd {n : Nat} {γs : DTGs} {s : Sd} {ρ : Env} {k : Env → Prop} : (gT n γs).t (sdD s) ρ k = (2 = n ∧ γs.t [.str (sdW s), nD (sdR s)] ρ k) := by rw [sdD_eq]; exact gT_tup
@[simp] theorem it_sd {s : Sd} : items (sdD s) = some [.str (sdW s), nD (sdR s)] := by rw [sdD_eq]; rfl
@[simp] theorem tu_sd {s : Sd} {xs : List PyData} : (sdD s = .tuple xs) = ([.str (sdW s), nD (sdR s)] = xs) := by rw [sdD_eq]; exact propext ⟨fun h => by injection h, fun h => by rw [h]⟩
@[simp] theorem ok_w {k : Nat} : ∀ {s : Sd}, okD k (.str (sdW s)) = True
  | .apart => oks1
  | .inn _ => oks2
  | .aro _ => oks3
@[simp] theorem six_none {n d : Nat} : HT.sIx n d none = d := rfl
theorem opq (p : Nat → Env → Prop) : ∃ W : Nat → Env → Prop, ∀ m ρ, W m ρ ↔ p m ρ := ⟨p, fun _ _ => Iff.rfl⟩
@[simp] theorem six_nat {n d k : Nat} : HT.sIx n d (some (k : Int)) = min k n := HT.sIx_nat n d k
@[simp] theorem six_nat1 {n d k : Nat} : HT.sIx n d (some ((k : Int) + 1)) = min (k + 1) n := HT.sIx_nat n d (k + 1)
@[simp] theorem six_one {n d : Nat} : HT.sIx n d (some 1) = min 1 n := HT.sIx_nat n d 1
@[simp] theorem cut_lo {xs : List PyData} {k : Nat} : cutD xs none (some (k : Int)) = xs.take k := by
  unfold cutD
  rw [six_nat, six_none, Nat.sub_zero, List.drop_zero]
  apply List.ext_getElem?
  intro i
  simp only [List.getElem?_take]
  by_cases h : i < k
  · by_cases h2 : i < xs.length
    · rw [if_pos (by omega), if_pos h]
    · rw [if_neg (by omega), if_pos h, List.getElem?_eq_none (by omega)]
  · rw [if_neg (by omega), if_neg h]
@[simp] theorem cut_hi {xs : List PyData} {k : Nat} : cutD xs (some ((k : Int) + 1)) none = xs.drop (k + 1) := by
  unfold cutD
  rw [six_nat1, six_none]
  apply List.ext_getElem?
  intro i
  simp only [List.getElem?_take, List.getElem?_drop]
  by_cases h : k + 1 ≤ xs.length
  · have e : min (k + 1) xs.length = k + 1 := by omega
    rw [e]
    by_cases h2 : i < xs.length - (k + 1)
    · rw [if_pos h2]
    · rw [if_neg h2, List.getElem?_eq_none (by omega)]
  · rw [if_neg (by omega), List.getElem?_eq_none (by omega)]
@[simp] theorem cut_one {xs : List PyData} : cutD xs (some 1) none = xs.drop 1 := cut_hi (k := 0)
@[simp] theorem two_le : (2 : Nat) ≤ sizeLine := by rw [sizeLine_eq]; decide
@[simp] theorem one_le : (1 : Nat) ≤ sizeLine := by rw [sizeLine_eq]; decide
@[simp] theorem three_le : (3 : Nat) ≤ sizeLine := by rw [sizeLine_eq]; decide
end DL
end
section
set_option Elab.async false
set_option maxRecDepth 100000
set_option linter.all false
namespace DL
@[simp] theorem and_asc {a b c : Prop} : ((a ∧ b) ∧ c) ↔ (a ∧ (b ∧ c)) := and_assoc
open PySem L2 L2.DC L2.GD MM
abbrev fin (kk : PyData → Prop) : DEnds := { nx := fun _ => kk .none, rt := fun d _ => kk d }
structure ROk (R : List Nat) : Prop where
  len : R.length ≤ 24
  most : ∀ r ∈ R, r ≤ 4
@[simp] theorem kit_ii : kitB "int" "int" = some true := by decide +kernel
@[simp] theorem kit_ib : kitB "int" "bool" = some false := by decide +kernel
@[simp] theorem kit_tt : kitB "tuple" "tuple" = some true := by decide +kernel
@[simp] theorem kit_ss : kitB "str" "str" = some true := by decide +kernel
@[simp] theorem okNL {l : List Nat} : okD 60 (.list (l.map nD)) = True := eq_true (ok_mapL (k := 59) (enc := nD) (fun _ => ok_n) l)
@[simp] theorem okNT {l : List Nat} : okD 60 (.tuple (l.map nD)) = True := eq_true (ok_map (k := 59) (enc := nD) (fun _ => ok_n) l)
theorem getI' {R : List Nat} {a : Nat} (h : a < R.length) : R.getD a 0 = R[a] := by rw [List.getD_eq_getElem?_getD, List.getElem?_eq_getElem h]; rfl
theorem up' {f : Forest} {a : Nat} (h : a < f.length) : f[a] = up f a := by unfold up; rw [List.getD_eq_getElem?_getD, List.getElem?_eq_getElem h]; rfl
theorem nonD {α : Type} (xs : List α) (enc : α → PyData) : PyData.eqv (.list (xs.map enc)) (.list []) = xs.isEmpty := by cases xs <;> simp [PyData.eqv, PyData.eqvAll]
theorem dm (xs : List Slot) : List.getD xs 0 .no = xs.headD .no := by cases xs <;> rfl
def p_is_whole : DRn := fun ds k => ∃ n, ds = [nD n] ∧ k (.bool true)
theorem r_is_whole : ∀ ds kk, p_is_whole ds kk → d_is_whole (fin kk) (env0 1 (ds.map .dat)) := by
  rintro ds kk ⟨n, rfl, h⟩
  simpa [d_is_whole, env0, nD] using h
def p_made_rooms : DRn := fun ds k => ∃ R, ds = [lotD R] ∧ ROk R ∧ k (lotD R)
theorem r_made_rooms : ∀ ds kk, p_made_rooms ds kk → d_made_rooms p_is_whole (fin kk) (env0 3 (ds.map .dat)) := by
  rintro ds kk ⟨R, rfl, ⟨h1, h2⟩, h⟩
  simp [d_made_rooms, env0, lotD, p_is_whole]
  refine ⟨h1, forOf_enum R nD (fun i ρ' => ∃ a b, ρ' = [.dat (lotD R), a, b]) ⟨_, _, rfl⟩ ?_ ?_⟩
  · rintro i a ρ' ha ⟨s1, s2, rfl⟩
    simpa [p_is_whole] using h2 a (List.mem_of_getElem? ha)
  · rintro ρ' ⟨s1, s2, rfl⟩
    simpa [lotD] using h
def p_is_rooms : DRn := fun ds k => ∃ R, ds = [lotD R] ∧ ROk R ∧ k (.bool true)
theorem r_is_rooms : ∀ ds kk, p_is_rooms ds kk → d_is_rooms p_is_whole (fin kk) (env0 2 (ds.map .dat)) := by
  rintro ds kk ⟨R, rfl, ⟨h1, h2⟩, h⟩
  simp [d_is_rooms, env0, lotD, p_is_whole]
  refine .inl ⟨h1, lcOf_map R nD (fun _ => false) nD (by omega) (by simp [Slot.ads]) (by simp) (fun a ha Y N hY hN => ?_) fun l => ?_⟩
  · simp [p_is_whole, wipeD]
    exact .inr ⟨h2 a ha, hN _ (by simp [wipeD]) rfl⟩
  · have e : R.filter (fun _ => false) = [] := by simp
    simpa [e, PyData.eqv, PyData.eqvAll] using h
def p_is_thing : DRn := fun ds k => ∃ R x, ds = [lotD R, nD x] ∧ x < R.length ∧ k (.bool true)
theorem r_is_thing : ∀ ds kk, p_is_thing ds kk → d_is_thing p_is_whole (fin kk) (env0 2 (ds.map .dat)) := by
  rintro ds kk ⟨R, x, rfl, hx, h⟩
  simpa [d_is_thing, env0, lotD, p_is_whole, hx] using h
/-- a place that may be -/
def PlOk (R : List Nat) (x : Nat) : Plc → Prop
  | none => True
  | some (h, r) => h < R.length ∧ h ≠ x ∧ r < R.getD h 0
def p_is_place : DRn := fun ds k => ∃ R x p, ds = [lotD R, nD x, placeD p] ∧ PlOk R x p ∧ k (.bool true)
theorem r_is_place : ∀ ds kk, p_is_place ds kk → d_is_place p_is_whole (fin kk) (env0 5 (ds.map .dat)) := by
  rintro ds kk ⟨R, x, p, rfl, hp, h⟩
  cases p with
  | none => simpa [d_is_place, env0, lotD, p_is_whole, placeD] using h
  | some p =>
    obtain ⟨a, r⟩ := p
    obtain ⟨h1, h2, h3⟩ := hp
    rw [getI' h1] at h3
    simp [d_is_place, env0, p_is_whole, h1, h2, h3]
    exact .inr h
def p_lies_in_itself : DRn := fun ds k => ∃ R f x, ds = [forestD f, nD x] ∧ Good R f ∧ R.length ≤ 24 ∧ x < R.length ∧ k (.bool false)
def p_first_ring : DRn := fun ds k => ∃ R f, ds = [forestD f] ∧ Good R f ∧ R.length ≤ 24 ∧ k .none
theorem r_first_ring : ∀ ds kk, p_first_ring ds kk → d_first_ring p_lies_in_itself (fin kk) (env0 2 (ds.map .dat)) := by
  rintro ds kk ⟨R, f, rfl, g, hl, h⟩
  have hfl := g.len
  simp [d_first_ring, env0, forestD]
  refine ⟨by omega, forOf_ints (n := f.length) (fun i ρ' => ∃ a, ρ' = [.dat (forestD f), a]) ⟨_, rfl⟩ ?_ ?_⟩
  · rintro i ρ' hi ⟨s1, rfl⟩
    simp [p_lies_in_itself]
    exact ⟨R, g, hl, hfl ▸ hi⟩
  · rintro ρ' ⟨s1, rfl⟩
    exact h
def p_first_bad : DRn := fun ds k => ∃ R f, ds = [lotD R, forestD f] ∧ Good R f ∧ k .none
theorem r_first_bad : ∀ ds kk, p_first_bad ds kk → d_first_bad p_is_place (fin kk) (env0 4 (ds.map .dat)) := by
  rintro ds kk ⟨R, f, rfl, g, h⟩
  simp [d_first_bad, env0, forestD]
  refine forOf_enum f placeD (fun i ρ' => ∃ a b, ρ' = [.dat (lotD R), .dat (forestD f), a, b]) ⟨_, _, rfl⟩ ?_ ?_
  · rintro i a ρ' ha ⟨s1, s2, rfl⟩
    simp [p_is_place]
    cases a with
    | none => trivial
    | some q =>
      obtain ⟨hh, r⟩ := q
      exact g.pl i hh r (by unfold up; rw [List.getD_eq_getElem?_getD, ha]; rfl)
  · rintro ρ' ⟨s1, s2, rfl⟩
    exact h
def p_made_forest : DRn := fun ds k => ∃ R f, ds = [lotD R, forestD f] ∧ ROk R ∧ Good R f ∧ k (forestD f)
theorem r_made_forest : ∀ ds kk, p_made_forest ds kk → d_made_forest p_made_rooms p_first_bad p_first_ring (fin kk) (env0 5 (ds.map .dat)) := by
  rintro ds kk ⟨R, f, rfl, hR, g, h⟩
  have hl := hR.len
  have hf := g.len
  simp [d_made_forest, env0, p_made_rooms, p_first_bad, p_first_ring, hR]
  refine ⟨hf, g, R, g, hl, lcOf_all f placeD placeD (by omega) (by simp [Slot.ads]) (by simp) (fun a ha Y hY => ?_) fun l => ?_⟩
  · cases a with
    | none =>
      simp [wipeD]
      exact hY _ (by simp [wipeD])
    | some q =>
      simp [wipeD]
      exact hY _ (by simp [wipeD])
  · simpa [forestD] using h
def p_is_forest : DRn := fun ds k => ∃ R f, ds = [lotD R, forestD f] ∧ ROk R ∧ Good R f ∧ k (.bool true)
theorem r_is_forest : ∀ ds kk, p_is_forest ds kk → d_is_forest p_is_rooms p_first_bad p_first_ring (fin kk) (env0 2 (ds.map .dat)) := by
  rintro ds kk ⟨R, f, rfl, hR, g, h⟩
  simp [d_is_forest, env0, p_is_rooms, p_first_bad, p_first_ring, hR]
  exact .inl ⟨g.len, g, R, g, hR.len, h⟩
/-! climbing -/
theorem climbF_cons {f : Forest} {k : Nat} {p : Nat × Nat} : climbF f (k + 1) (some p) = p :: climbF f k (up f p.1) := rfl
theorem climbF_none {f : Forest} : ∀ {k : Nat}, climbF f k none = []
  | 0 => rfl
  | _ + 1 => rfl
def p_around : DRn := fun ds k => ∃ R f x, ds = [forestD f, nD x] ∧ Good R f ∧ R.length ≤ 24 ∧ x < R.length ∧ k (lotD (arnd f x))
def optD : Option Nat → PyData
  | none => .none
  | some r => nD r
def p_room_way : DRn := fun ds k => ∃ R f x y, ds = [forestD f, nD x, nD y] ∧ Good R f ∧ R.length ≤ 24 ∧ x < R.length ∧ k (optD (wayTo f x y))
theorem r_around : ∀ ds kk, p_around ds kk → d_around (fin kk) (env0 4 (ds.map .dat)) := by
  rintro ds kk ⟨R, f, x, rfl, g, hl, hx, h⟩
  have hf := g.len
  have hc := g.climb_len x
  simp [d_around, env0]
  intro l
  obtain ⟨W, hW⟩ := opq fun m ρ => ∃ told rem p, ρ = [.dat (forestD f), .dat (nD x), .lst l (told.map nD), .dat (placeD p)] ∧ Full f p rem ∧ told ++ rem.map (·.1) = arnd f x ∧ m = rem.length ∧ (∀ h r, p = some (h, r) → h < f.length)
  refine ⟨placeD (up f x), ⟨up f x, getP (by omega), rfl⟩, W, ⟨_, (hW _ _).mpr ⟨[], climb f x, up f x, rfl, g.full x, rfl, rfl, fun h r e => by rw [hf]; exact g.lt e⟩⟩, ?_⟩
  intro m ρ w
  obtain ⟨told, rem, p, rfl, hfull, happ, rfl, hp⟩ := (hW _ _).mp w
  have hlen : told.length + rem.length ≤ R.length := by
    have := congrArg List.length happ
    simp [arnd] at this
    omega
  cases hfull with
  | nil =>
    simp at happ
    subst happ
    simpa [lotD] using h
  | @cons hh r rem hfull =>
    have hhl := hp hh r rfl
    simp
    refine ⟨by omega, placeD (up f hh), ⟨up f hh, getP hhl, rfl⟩, rem.length, by simp, (hW _ _).mpr ⟨told ++ [hh], rem, up f hh, by simp, hfull, by simpa using happ, rfl, fun h r e => by rw [hf]; exact g.lt e⟩⟩
theorem r_room_way : ∀ ds kk, p_room_way ds kk → d_room_way (fin kk) (env0 4 (ds.map .dat)) := by
  rintro ds kk ⟨R, f, x, y, rfl, g, hl, hx, h⟩
  have hf := g.len
  simp [d_room_way, env0]
  obtain ⟨W, hW⟩ := opq fun m ρ => ∃ rem p, ρ = [.dat (forestD f), .dat (nD x), .dat (nD y), .dat (placeD p)] ∧ Full f p rem ∧ wayTo f x y = (rem.find? fun p => decide (p.1 = y)).map (·.2) ∧ m = rem.length ∧ (∀ h r, p = some (h, r) → h < f.length)
  refine ⟨placeD (up f x), ⟨up f x, getP (by omega), rfl⟩, W, ⟨_, (hW _ _).mpr ⟨climb f x, up f x, rfl, g.full x, rfl, rfl, fun h r e => by rw [hf]; exact g.lt e⟩⟩, ?_⟩
  intro m ρ w
  obtain ⟨rem, p, rfl, hfull, hway, rfl, hp⟩ := (hW _ _).mp w
  cases hfull with
  | nil =>
    rw [hway] at h
    simpa [optD] using h
  | @cons hh r rem hfull =>
    have hhl := hp hh r rfl
    by_cases hy : hh = y
    · subst hy
      rw [hway] at h
      simpa [optD] using h
    · simp [hy]
      refine ⟨placeD (up f hh), ⟨up f hh, getP hhl, rfl⟩, rem.length, by simp, (hW _ _).mpr ⟨rem, up f hh, by simp, hfull, by rw [hway]; simp [hy], rfl, fun h r e => by rw [hf]; exact g.lt e⟩⟩
theorem r_lies_in_itself : ∀ ds kk, p_lies_in_itself ds kk → d_lies_in_itself (fin kk) (env0 4 (ds.map .dat)) := by
  rintro ds kk ⟨R, f, x, rfl, g, hl24, hx, h⟩
  have hf := g.len
  have hl : f.length ≤ 1000000 ∨ 1000000 < f.length := by omega
  simp [d_lies_in_itself, env0]
  refine ⟨by omega, ?_⟩
  obtain ⟨W, hW⟩ := opq fun m ρ => ∃ here s rem, ρ = [.dat (forestD f), .dat (nD x), .dat (nD here), s] ∧ here < f.length ∧ Full f (up f here) rem ∧ x ∉ rem.map (·.1)
  refine forOf_ints (n := f.length) W ((hW _ _).mpr ⟨x, _, climb f x, rfl, by omega, g.full x, g.notArnd x⟩) ?_ ?_
  · intro i ρ' hi w
    obtain ⟨here, s, rem, rfl, hh, hfull, hn⟩ := (hW _ _).mp w
    cases hu : up f here with
    | none => simp [getP hh, hu, h]
    | some q =>
      obtain ⟨a, r⟩ := q
      rw [hu] at hfull
      cases hfull with
      | cons hfull =>
        simp at hn
        have ha : a ≠ x := fun e => hn.1 e.symm
        simp [getP hh, hu, ha]
        exact (hW _ _).mpr ⟨a, _, _, rfl, by rw [hf]; exact g.lt hu, hfull, by simpa using hn.2⟩
  · intro ρ' w
    obtain ⟨here, s, rem, rfl, hh, hfull, hn⟩ := (hW _ _).mp w
    exact h
def p_within : DRn := fun ds k => ∃ R f x, ds = [forestD f, nD x] ∧ Good R f ∧ R.length ≤ 24 ∧ x < R.length ∧ k (lotD (insideL f x))
theorem r_within : ∀ ds kk, p_within ds kk → d_within p_around (fin kk) (env0 3 (ds.map .dat)) := by
  rintro ds kk ⟨R, f, x, rfl, g, hl, hx, h⟩
  have hf := g.len
  simp [d_within, env0]
  refine ⟨by omega, ?_⟩
  rw [intsD_eq]
  refine lcOf_map _ nD (fun z => decide (x ∈ arnd f z)) nD (by simp; omega) (by simp [Slot.ads]) (by simp) (fun a ha Y N hY hN => ?_) fun l => ?_
  · have ha : a < f.length := by simpa using ha
    simp [p_around, wipeD]
    refine ⟨R, g, hl, by omega, ?_⟩
    split
    · exact hY _ (by simp [wipeD]) (by simpa)
    · exact hN _ (by simp [wipeD]) (by simpa)
  · simpa [lotD, insideL] using h
def p_put : DRn := fun ds k => ∃ f x p, ds = [forestD f, nD x, placeD p] ∧ x < f.length ∧ f.length ≤ 24 ∧ k (forestD (f.set x p))
theorem r_put : ∀ ds kk, p_put ds kk → d_put (fin kk) (env0 3 (ds.map .dat)) := by
  rintro ds kk ⟨f, x, p, rfl, hx, hl, h⟩
  have e1 : min x f.length = x := by omega
  have e2 : min (x + 1) f.length = x + 1 := by omega
  have e3 : f.set x p = f.take x ++ p :: f.drop (x + 1) := List.set_eq_take_append_cons_drop.trans (if_pos hx)
  simp [d_put, env0, e1, e2]
  rw [e3] at h
  have e4 : ¬ x = f.length := by omega
  simp [e4]
  have e5 : (min (↑x + 1) ↑f.length : Nat) = x + 1 := by omega
  repeat' (first | (refine ⟨?_, ?_⟩) | omega)
  all_goals first | omega | (intro e; subst e; simp at hx; done) | simpa [forestD, List.map_take, List.map_drop] using h
end DL
end
section
set_option Elab.async false
set_option maxRecDepth 100000
set_option linter.all false
namespace DL
open PySem L2 L2.DC L2.GD MM
@[simp] theorem fzD_inj {a b : List PyData} : fzD a = fzD b ↔ a = b := ⟨fun h => by unfold fzD at h; simpa using h, fun h => by rw [h]⟩
def p_allZ : DRn := fun ds k => ∃ R x y, ds = [lotD R, nD x, nD y] ∧ ROk R ∧ x < R.length ∧ y < R.length ∧ k (fzD ((allSd R x y).map sdD))
def p_all_standings : DRn := fun ds k => ∃ R x y, ds = [lotD R, nD x, nD y] ∧ ROk R ∧ x < R.length ∧ y < R.length ∧ k (letsD (allSd R x y))
theorem rmost {R : List Nat} (h : ROk R) {x : Nat} (hx : x < R.length) : R[x] ≤ 4 := h.most _ (List.getElem_mem hx)
theorem r_allZ : ∀ ds kk, p_allZ ds kk → d_all_standings (fin kk) (env0 5 (ds.map .dat)) := by
  rintro ds kk ⟨R, x, y, rfl, hR, hx, hy, h⟩
  have h1 := rmost hR hx
  have h2 := rmost hR hy
  simp [d_all_standings, env0, hx, hy, dTupZ, dCatZ]
  refine ⟨by omega, ?_⟩
  rw [intsD_eq]
  refine lcOf_all _ nD (fun i => sdD (.inn i)) (by simp; omega) (by simp [Slot.ads]) (by simp) (fun a ha Y hY => ?_) fun l => ?_
  · simp [wipeD]
    exact hY _ (by simp [wipeD])
  · simp [hx]
    refine ⟨by omega, by omega, ?_⟩
    rw [intsD_eq]
    refine lcOf_all _ nD (fun i => sdD (.aro i)) (by simp; omega) (by simp [Slot.ads]) (by simp) (fun a ha Y hY => ?_) fun l => ?_
    · simp [wipeD]
      exact hY _ (by simp [wipeD])
    · simp
      refine ⟨by omega, ?_⟩
      have e : (allSd R x y).map sdD = .tuple [.str "apart", .int 0] :: ((List.range R[y]).map (fun i => sdD (.inn i)) ++ (List.range R[x]).map fun i => sdD (.aro i)) := by
        simp [allSd, hx, hy, Function.comp_def, sdD]
      rw [e] at h
      exact h
def p_turned : DRn := fun ds k => ∃ s, ds = [sdD s] ∧ k (sdD s.turn)
theorem r_turned : ∀ ds kk, p_turned ds kk → d_turned (fin kk) (env0 3 (ds.map .dat)) := by
  rintro ds kk ⟨s, rfl, h⟩
  cases s <;> simp [d_turned, env0, sdW, sdR, tabD, Sd.turn, sdD, st_ne.1, st_ne.2.1, st_ne.2.2, st_ne2.1, st_ne2.2.1, st_ne2.2.2] at h ⊢
  · exact h
  · exact h
  · exact h
def p_standing_in : DRn := fun ds k => ∃ R f x y, ds = [forestD f, nD x, nD y] ∧ Good R f ∧ R.length ≤ 24 ∧ x < R.length ∧ y < R.length ∧ k (sdD (stand f x y))
theorem r_standing_in : ∀ ds kk, p_standing_in ds kk → d_standing_in p_room_way (fin kk) (env0 4 (ds.map .dat)) := by
  rintro ds kk ⟨R, f, x, y, rfl, g, hl, hx, hy, h⟩
  simp [d_standing_in, env0, p_room_way]
  refine ⟨R, g, hl, hx, ?_⟩
  unfold stand at h
  cases h1 : wayTo f x y with
  | some r =>
    rw [h1] at h
    simpa [optD, sdD] using h
  | none =>
    rw [h1] at h
    simp [optD]
    refine ⟨R, g, hl, hy, ?_⟩
    cases h2 : wayTo f y x with
    | some r =>
      rw [h2] at h
      simpa [optD, sdD] using h
    | none =>
      rw [h2] at h
      simpa [optD, sdD] using h
end DL
end
section
set_option Elab.async false
set_option maxRecDepth 100000
set_option linter.all false
namespace DL
open PySem L2 L2.DC L2.GD MM
@[simp] theorem bookD_inj {R R' : List Nat} {ss ss' : List Say} : bookD R ss = bookD R' ss' ↔ R = R' ∧ ss = ss' := by simp [bookD]
/-! books -/
structure BkOk (R : List Nat) (ss : List Say) : Prop where
  rooms : ROk R
  says : ∀ s ∈ ss, SayOk R s
  few : ss.length ≤ 400
theorem mem_all {R : List Nat} {x y : Nat} {s : Sd} (h : s ∈ allSd R x y) : True := trivial
theorem allSd_len {R : List Nat} (h : ROk R) {x y : Nat} (hx : x < R.length) (hy : y < R.length) : (allSd R x y).length ≤ 9 := by
  have h1 := rmost h hx
  have h2 := rmost h hy
  simp [allSd, hx, hy]
  omega
def p_is_standing : DRn := fun ds k => ∃ R x y s, ds = [lotD R, nD x, nD y, sdD s] ∧ ROk R ∧ x < R.length ∧ y < R.length ∧ s ∈ allSd R x y ∧ k (.bool true)
theorem r_is_standing : ∀ ds kk, p_is_standing ds kk → d_is_standing p_is_whole p_all_standings (fin kk) (env0 4 (ds.map .dat)) := by
  rintro ds kk ⟨R, x, y, s, rfl, hR, hx, hy, hs, h⟩
  simp [d_is_standing, env0, p_is_whole, p_all_standings, hR, hx, hy, hs]
  exact h
def p_is_lets : DRn := fun ds k => ∃ R x y l, ds = [lotD R, nD x, nD y, letsD l] ∧ ROk R ∧ x < R.length ∧ y < R.length ∧ l.Sublist (allSd R x y) ∧ k (.bool true)
theorem allSd_nd {R : List Nat} {x y : Nat} : (allSd R x y).Nodup := by
  unfold allSd
  refine List.nodup_cons.mpr ⟨by simp, List.nodup_append.mpr ⟨?_, ?_, ?_⟩⟩
  · exact List.Pairwise.map _ (fun a b h e => h (Sd.inn.inj e)) List.nodup_range
  · exact List.Pairwise.map _ (fun a b h e => h (Sd.aro.inj e)) List.nodup_range
  · intro a ha b hb e
    simp at ha hb
    obtain ⟨i, _, rfl⟩ := ha
    obtain ⟨j, _, rfl⟩ := hb
    cases e
/-- where the items of a part of a list stand -/
theorem sub_places {α : Type} {l m : List α} (h : l.Sublist m) : ∃ js : List Nat, js.length = l.length ∧ (∀ (i j : Nat) (a : α), l[i]? = some a → js[i]? = some j → m[j]? = some a) ∧ js.Pairwise (· < ·) := by
  induction h with
  | slnil => exact ⟨[], rfl, by simp, .nil⟩
  | @cons l m a h ih =>
    obtain ⟨js, h1, h2, h3⟩ := ih
    refine ⟨js.map (· + 1), by simpa using h1, fun i j b hb hj => ?_, h3.map _ fun a b h => by omega⟩
    rw [List.getElem?_map, Option.map_eq_some_iff] at hj
    obtain ⟨j', hj', rfl⟩ := hj
    simpa using h2 i j' b hb hj'
  | @cons_cons l m a h ih =>
    obtain ⟨js, h1, h2, h3⟩ := ih
    refine ⟨0 :: js.map (· + 1), by simpa using h1, fun i j b hb hj => ?_, List.pairwise_cons.mpr ⟨fun j hj => ?_, h3.map _ fun a b h => by omega⟩⟩
    · cases i with
      | zero =>
        simp at hb hj
        subst hb hj
        rfl
      | succ i =>
        simp at hb hj
        obtain ⟨j', hj', rfl⟩ := hj
        simpa using h2 i j' b hb hj'
    · obtain ⟨j', _, rfl⟩ := List.mem_map.mp hj
      omega
theorem r_is_lets : ∀ ds kk, p_is_lets ds kk → d_is_lets p_allZ p_is_standing (fin kk) (env0 8 (ds.map .dat)) := by
  rintro ds kk ⟨R, x, y, l, rfl, hR, hx, hy, hs, h⟩
  simp [d_is_lets, env0, p_allZ, hR, hx, hy, dIndexZ]
  obtain ⟨js, j1, j2, j3⟩ := sub_places hs
  obtain ⟨W, hW⟩ := opq fun i ρ => ∃ s1 s2 b, ρ = [.dat (lotD R), .dat (nD x), .dat (nD y), .dat (letsD l), .dat (fzD ((allSd R x y).map sdD)), .dat (.int b), s1, s2] ∧ ∀ j, js[i]? = some j → b < (j : Int)
  refine forOf_map l sdD W ((hW _ _).mpr ⟨_, _, -1, rfl, fun j _ => by omega⟩) ?_ ?_
  · intro i a ρ' ha w
    obtain ⟨s1, s2, b, rfl, hb⟩ := (hW _ _).mp w
    obtain ⟨hil, hia⟩ := List.getElem?_eq_some_iff.mp ha
    have hij : i < js.length := by omega
    have hja := j2 i js[i] a ha (List.getElem?_eq_getElem hij)
    have hmem : a ∈ allSd R x y := List.mem_of_getElem? hja
    have okt : okD 60 (.tuple ((allSd R x y).map sdD)) = True := eq_true (ok_map (k := 59) (fun _ => ok_sd (k := 58)) _)
    have hjl : js[i] < (allSd R x y).length := (List.getElem?_eq_some_iff.mp hja).1
    have hbi := hb js[i] (List.getElem?_eq_getElem hij)
    simp [p_is_standing, hR, hx, hy, hmem, okt, dIndexZ]
    refine ⟨js[i], sdD a, ⟨a, hja, rfl⟩, by simp, ?_, .inl ⟨hbi, ?_⟩⟩
    · intro m z' hm s hs' hz
      have hml : m < (allSd R x y).length := by omega
      subst hz
      simp
      intro e
      subst e
      have e2 : (allSd R x y)[m] = (allSd R x y)[js[i]] := by
        rw [List.getElem?_eq_getElem hml] at hs'
        rw [List.getElem?_eq_getElem hjl] at hja
        exact (Option.some.inj hs').trans (Option.some.inj hja).symm
      have := (List.getElem_inj allSd_nd).mp e2
      omega
    · refine (hW _ _).mpr ⟨_, _, _, rfl, fun j hj => ?_⟩
      obtain ⟨h5, h6⟩ := List.getElem?_eq_some_iff.mp hj
      subst h6
      have := List.pairwise_iff_getElem.mp j3 i (i + 1) hij h5 (by omega)
      omega
  · intro ρ' w
    obtain ⟨s1, s2, b, rfl, hb⟩ := (hW _ _).mp w
    exact h
def p_says_right : DRn := fun ds k => ∃ R s, ds = [lotD R, sayD s] ∧ ROk R ∧ SayOk R s ∧ k (.bool true)
theorem r_says_right : ∀ ds kk, p_says_right ds kk → d_says_right p_is_thing p_is_lets (fin kk) (env0 5 (ds.map .dat)) := by
  rintro ds kk ⟨R, s, rfl, hR, ⟨h1, h2, h3, h4⟩, h⟩
  simp [d_says_right, env0, p_is_thing, p_is_lets, hR, h1, h2, h3, h4]
  exact h
def p_is_pair : DRn := fun ds k => ∃ R ss, ds = [bookD R ss] ∧ k (.bool true)
theorem r_is_pair : ∀ ds kk, p_is_pair ds kk → d_is_pair (fin kk) (env0 1 (ds.map .dat)) := by
  rintro ds kk ⟨R, ss, rfl, h⟩
  simpa [d_is_pair, env0] using h
def p_first_wrong : DRn := fun ds k => ∃ R ss, ds = [lotD R, saysD ss] ∧ BkOk R ss ∧ k .none
theorem r_first_wrong : ∀ ds kk, p_first_wrong ds kk → d_first_wrong p_says_right (fin kk) (env0 4 (ds.map .dat)) := by
  rintro ds kk ⟨R, ss, rfl, hB, h⟩
  simp [d_first_wrong, env0]
  refine forOf_enum ss sayD (fun i ρ' => ∃ a b, ρ' = [.dat (lotD R), .dat (saysD ss), a, b]) ⟨_, _, rfl⟩ ?_ ?_
  · rintro i a ρ' ha ⟨s1, s2, rfl⟩
    simp [p_says_right, -Prod.exists]
    exact ⟨hB.rooms, hB.says a (List.mem_of_getElem? ha)⟩
  · rintro ρ' ⟨s1, s2, rfl⟩
    exact h
@[simp] theorem n400 {a : Nat} : ((a : Int) ≤ 400) = (a ≤ 400) := propext (by omega)
@[simp] theorem n400' {a : Nat} : (400 < (a : Int)) = (400 < a) := propext (by omega)
def p_made_book : DRn := fun ds k => ∃ R ss, ds = [bookD R ss] ∧ BkOk R ss ∧ k (bookD R ss)
theorem r_made_book : ∀ ds kk, p_made_book ds kk → d_made_book p_is_pair p_made_rooms p_first_wrong (fin kk) (env0 4 (ds.map .dat)) := by
  rintro ds kk ⟨R, ss, rfl, hB, h⟩
  have h1 := hB.few
  have h2 : ¬ 400 < ss.length := by omega
  simp [d_made_book, env0, p_is_pair, p_made_rooms, p_first_wrong, hB.rooms, hB, h1, h2]
  exact h
def p_is_book : DRn := fun ds k => ∃ R ss, ds = [bookD R ss] ∧ BkOk R ss ∧ k (.bool true)
theorem r_is_book : ∀ ds kk, p_is_book ds kk → d_is_book p_is_pair p_is_rooms p_first_wrong (fin kk) (env0 1 (ds.map .dat)) := by
  rintro ds kk ⟨R, ss, rfl, hB, h⟩
  have h1 := hB.few
  simp [d_is_book, env0, p_is_pair, p_is_rooms, p_first_wrong, hB.rooms, hB, h1]
  exact .inr h
def p_common_lets : DRn := fun ds k => ∃ a b, ds = [letsD a, letsD b] ∧ a.length ≤ 1000 ∧ k (letsD (common a b))
theorem r_common_lets : ∀ ds kk, p_common_lets ds kk → d_common_lets (fin kk) (env0 3 (ds.map .dat)) := by
  rintro ds kk ⟨a, b, rfl, hl, h⟩
  simp [d_common_lets, env0]
  refine lcOf_map a sdD (fun s => decide (s ∈ b)) sdD (by omega) (by simp [Slot.ads]) (by simp) (fun s ha Y N hY hN => ?_) fun l => ?_
  · simp [wipeD]
    split
    · exact hY _ (by simp [wipeD]) (by simpa)
    · exact hN _ (by simp [wipeD]) (by simpa)
  · simpa [letsD, common] using h
def p_turned_lets : DRn := fun ds k => ∃ l, ds = [letsD l] ∧ l.length ≤ 1000 ∧ k (letsD (turned l))
theorem sdW_cases (s : Sd) : (sdW s = "apart" ↔ s = .apart) ∧ (sdW s = "around" ↔ ∃ r, s = .aro r) ∧ (sdW s = "in" ↔ ∃ r, s = .inn r) := by
  cases s <;> simp [sdW, st_ne.1, st_ne.2.1, st_ne.2.2, st_ne2.1, st_ne2.2.1, st_ne2.2.2]
theorem r_turned_lets : ∀ ds kk, p_turned_lets ds kk → d_turned_lets p_turned (fin kk) (env0 5 (ds.map .dat)) := by
  rintro ds kk ⟨l, rfl, hl, h⟩
  simp [d_turned_lets, env0]
  refine lcOf_map l sdD (fun s => decide (s = .apart)) sdD (by omega) (by simp [Slot.ads]) (by simp) (fun s ha Y N hY hN => ?_) fun l1 => ?_
  · simp [wipeD, (sdW_cases s).1]
    split
    · exact hY _ (by simp [wipeD]) (by simpa)
    · exact hN _ (by simp [wipeD]) (by simpa)
  simp
  refine lcOf_map l sdD Sd.isAro (fun s => sdD s.turn) (by omega) (by simp [Slot.ads]) (by simp) (fun s ha Y N hY hN => ?_) fun l2 => ?_
  · cases s <;> simp [wipeD, sdW, p_turned, st_ne.1, st_ne.2.1, st_ne.2.2, st_ne2.1, st_ne2.2.1, st_ne2.2.2]
    · exact hN _ (by simp [wipeD]) rfl
    · exact hN _ (by simp [wipeD]) rfl
    · exact hY _ (by simp [wipeD]) rfl
  simp
  refine lcOf_map l sdD Sd.isInn (fun s => sdD s.turn) (by omega) (by simp [Slot.ads]) (by simp) (fun s ha Y N hY hN => ?_) fun l3 => ?_
  · cases s <;> simp [wipeD, sdW, p_turned, st_ne.1, st_ne.2.1, st_ne.2.2, st_ne2.1, st_ne2.2.1, st_ne2.2.2]
    · exact hN _ (by simp [wipeD]) rfl
    · exact hY _ (by simp [wipeD]) rfl
    · exact hN _ (by simp [wipeD]) rfl
  have f1 : ∀ p : Sd → Bool, (l.filter p).length ≤ 1000 := fun p => Nat.le_trans (List.length_filter_le p l) hl
  have g1 := f1 (fun s => decide (s = .apart))
  have g2 := f1 Sd.isAro
  have g3 := f1 Sd.isInn
  simp
  refine ⟨by omega, by omega, ?_⟩
  simpa [letsD, turned, Function.comp_def] using h
end DL
end
section
set_option Elab.async false
set_option maxRecDepth 100000
set_option linter.all false
namespace DL
open PySem L2 L2.DC L2.GD MM
/-! ### tables -/
theorem keyOf_inj {p q : Nat × Nat} : keyOf p = keyOf q ↔ p = q := by
  obtain ⟨a, b⟩ := p
  obtain ⟨c, d⟩ := q
  constructor
  · intro h
    unfold keyOf at h
    injection h with h1 h2
    injection h2 with h2 h3
    have e1 := Sum.inl.inj h1
    have e2 := Sum.inl.inj h2
    simp at e1 e2
    rw [e1, e2]
  · intro h
    rw [h]
theorem mem_pairs {n a b : Nat} : (a, b) ∈ pairs n ↔ a < n ∧ b < n ∧ a ≠ b := by
  unfold pairs
  simp only [List.mem_flatMap, List.mem_map, List.mem_filter, List.mem_range, decide_eq_true_eq, Prod.mk.injEq]
  constructor
  · rintro ⟨x, hx, y, ⟨hy, hn⟩, rfl, rfl⟩
    exact ⟨hx, hy, hn⟩
  · rintro ⟨ha, hb, hn⟩
    exact ⟨a, ha, b, ⟨hb, hn⟩, rfl, rfl⟩
theorem pairs_nd {n : Nat} : (pairs n).Nodup := by
  unfold pairs
  refine List.pairwise_flatMap.mpr ⟨fun x _ => ?_, ?_⟩
  · exact List.Pairwise.map _ (fun a b h e => h (Prod.mk.inj e).2) (List.nodup_range.filter _)
  · refine List.nodup_range.imp fun {a b} h => ?_
    intro x hx y hy e
    subst e
    obtain ⟨_, _, rfl⟩ := List.mem_map.mp hx
    obtain ⟨_, _, e⟩ := List.mem_map.mp hy
    exact h (Prod.mk.inj e).1.symm
def upd2 (L : Tab) (a b : Nat) (l : List Sd) : Tab := fun x y => if x = a ∧ y = b then l else L x y
theorem look_tab {enc : List Sd → PyData} {n a b : Nat} {L : Tab} (ha : a < n) (hb : b < n) (hn : a ≠ b) : lookM (tabM enc n L) (keyOf (a, b)) = some (enc (L a b)) := by
  unfold lookM tabM
  rw [List.find?_map]
  have hm := mem_pairs.mpr ⟨ha, hb, hn⟩
  cases e : (pairs n).find? ((fun p : List Key × PyData => decide (p.1 = keyOf (a, b))) ∘ fun p => (keyOf p, enc (L p.1 p.2))) with
  | none =>
    have := List.find?_eq_none.mp e _ hm
    simp at this
  | some q =>
    have h := List.find?_some e
    simp [keyOf_inj] at h
    subst h
    rfl
theorem put_tab {enc : List Sd → PyData} {n a b : Nat} {L : Tab} {l : List Sd} (ha : a < n) (hb : b < n) (hn : a ≠ b) : putM (tabM enc n L) (keyOf (a, b)) (enc l) = tabM enc n (upd2 L a b l) := by
  have hm := mem_pairs.mpr ⟨ha, hb, hn⟩
  unfold putM tabM
  rw [if_pos (List.any_eq_true.mpr ⟨_, List.mem_map.mpr ⟨_, hm, rfl⟩, by simp⟩), List.map_map]
  apply List.map_congr_left
  rintro ⟨x, y⟩ _
  simp only [Function.comp, keyOf_inj, Prod.mk.injEq, upd2]
  by_cases h : x = a ∧ y = b
  · rw [if_pos h, if_pos h]
  · rw [if_neg h, if_neg h]
theorem tab_len {enc : List Sd → PyData} {n : Nat} {L : Tab} : (tabM enc n L).length ≤ n * n := by
  unfold tabM pairs
  rw [List.length_map, List.length_flatMap]
  have : ∀ l : List Nat, ((l.map fun x => (((List.range n).filter fun y => decide (x ≠ y)).map fun y => (x, y)).length).sum) ≤ l.length * n := fun l => by
    induction l with
    | nil => simp
    | cons a l ih =>
      rw [List.map_cons, List.sum_cons, List.length_cons, Nat.succ_mul]
      have h1 := List.length_filter_le (fun y => decide (a ≠ y)) (List.range n)
      rw [List.length_range] at h1
      rw [List.length_map]
      omega
  have h := this (List.range n)
  rwa [List.length_range] at h
def nOf : PyData → Nat
  | .int i => i.toNat
  | _ => 0
theorem nOf_nD (a : Nat) : nOf (nD a) = a := by simp [nOf, nD]
theorem fold_new {e : Nat × Nat → PyData} : ∀ (ps : List (Nat × Nat)) (m : KMap), ps.Nodup → (∀ q ∈ ps, ∀ z ∈ m, z.1 ≠ keyOf q) → ps.foldl (fun m q => putM m (keyOf q) (e q)) m = m ++ ps.map fun q => (keyOf q, e q)
  | [], m, _, _ => by simp
  | q :: ps, m, nd, h => by
    obtain ⟨n1, n2⟩ := List.nodup_cons.mp nd
    have hp : putM m (keyOf q) (e q) = m ++ [(keyOf q, e q)] := by
      unfold putM
      rw [if_neg]
      intro ha
      obtain ⟨z, hz, hq⟩ := List.any_eq_true.mp ha
      exact h q List.mem_cons_self z hz (of_decide_eq_true hq)
    rw [List.foldl_cons, hp, fold_new ps _ n2, List.append_assoc]
    · rfl
    · intro q' hq' z hz
      rcases List.mem_append.mp hz with hz | hz
      · exact h q' (List.mem_cons_of_mem _ hq') z hz
      · have : z = (keyOf q, e q) := by simpa using hz
        subst this
        intro ek
        rw [keyOf_inj.mp ek] at n1
        exact n1 hq'
def DtOf (xs : List PyData) (v : Nat) (ι1 : DTA) (v1 : Nat) (τ : DTT) (ω : DTA) (ε : DTE) (ρ1 : Env) (k : Slot → Env → Prop) : Prop := ∃ (ys : List PyData) (p : PyData → PyData → Bool) (kf : PyData → PyData → List Key) (g : PyData → PyData → PyData),
  xs.length * ys.length ≤ 1000000 ∧ (∀ i ∈ [v, v1], (ρ1.getD i .no).ads = [] ) ∧
  (∀ x ∈ xs, ι1 ((wipeD ρ1 [v, v1]).set v (.dat x)) fun ys' ρ3 => ys' = ys ∧ ρ3 = (wipeD ρ1 [v, v1]).set v (.dat x)) ∧
  (∀ x ∈ xs, ∀ y ∈ ys, τ ((wipeD ((wipeD ρ1 [v, v1]).set v (.dat x)) [v1]).set v1 (.dat y)) fun b ρ5 => b = p x y ∧ ρ5 = (wipeD ((wipeD ρ1 [v, v1]).set v (.dat x)) [v1]).set v1 (.dat y) ∧
    (b = true → ω ρ5 fun ks ρ6 => ks.length ≤ 1000 ∧ ks = (kf x y).map keyD ∧ ρ6 = ρ5 ∧ ε ρ6 fun z ρ7 => z = g x y ∧ ρ7 = ρ5)) ∧
  ∀ l, k (.dT l ((outM p kf g ys xs).map encKV)) ρ1
@[simp] theorem dDT_eq {ι : DTA} {v : Nat} {ι1 : DTA} {v1 : Nat} {τ : DTT} {ω : DTA} {ε : DTE} : dDT ι v ι1 v1 τ ω ε = fun ρ k => ι ρ fun xs ρ1 => DtOf xs v ι1 v1 τ ω ε ρ1 k := rfl
theorem dtOf_ints {n : Nat} {enc : List Sd → PyData} {L : Tab} {v : Nat} {ι1 : DTA} {v1 : Nat} {τ : DTT} {ω : DTA} {ε : DTE} {ρ1 : Env} {k : Slot → Env → Prop} (hn : n ≤ 1000) (ha : ∀ i ∈ [v, v1], (ρ1.getD i .no).ads = [])
    (h1 : ∀ x < n, ι1 ((wipeD ρ1 [v, v1]).set v (.dat (nD x))) fun ys' ρ3 => ys' = intsD 0 n ∧ ρ3 = (wipeD ρ1 [v, v1]).set v (.dat (nD x)))
    (h2 : ∀ x < n, ∀ y < n, ∀ ρ5, ρ5 = (wipeD ((wipeD ρ1 [v, v1]).set v (.dat (nD x))) [v1]).set v1 (.dat (nD y)) → τ ρ5 fun b ρ6 => b = decide (x ≠ y) ∧ ρ6 = ρ5)
    (h3 : ∀ x < n, ∀ y < n, x ≠ y → ∀ ρ5, ρ5 = (wipeD ((wipeD ρ1 [v, v1]).set v (.dat (nD x))) [v1]).set v1 (.dat (nD y)) → ω ρ5 fun ks ρ6 => ks = [nD x, nD y] ∧ ρ6 = ρ5 ∧ ε ρ6 fun z ρ7 => z = enc (L x y) ∧ ρ7 = ρ5)
    (mon : ∀ {P Q : Bool → Env → Prop} ρ, (∀ b ρ', P b ρ' → Q b ρ') → τ ρ P → τ ρ Q) (monA : ∀ {P Q : List PyData → Env → Prop} ρ, (∀ b ρ', P b ρ' → Q b ρ') → ω ρ P → ω ρ Q)
    (done : ∀ l, k (.dT l ((tabM enc n L).map encKV)) ρ1) : DtOf (intsD 0 n) v ι1 v1 τ ω ε ρ1 k := by
  refine ⟨intsD 0 n, fun x y => decide (nOf x ≠ nOf y), fun x y => keyOf (nOf x, nOf y), fun x y => enc (L (nOf x) (nOf y)), ?_, ha, ?_, ?_, ?_⟩
  · simp [intsD]
    have := Nat.mul_le_mul hn hn
    omega
  · intro x hx
    rw [intsD_eq] at hx
    obtain ⟨i, hi, rfl⟩ := List.mem_map.mp hx
    exact h1 i (by simpa using hi)
  · intro x hx y hy
    rw [intsD_eq] at hx hy
    obtain ⟨i, hi, rfl⟩ := List.mem_map.mp hx
    obtain ⟨j, hj, rfl⟩ := List.mem_map.mp hy
    have hi : i < n := by simpa using hi
    have hj : j < n := by simpa using hj
    simp only [nOf_nD]
    refine mon _ (fun b ρ' h => ⟨h.1, h.2, fun hb => ?_⟩) (h2 i hi j hj _ rfl)
    obtain ⟨rfl, rfl⟩ := h
    refine monA _ (fun ks ρ' h => ?_) (h3 i hi j hj (of_decide_eq_true hb) _ rfl)
    obtain ⟨rfl, rfl, h⟩ := h
    exact ⟨by simp, by simp [keyOf, keyD, nD], rfl, h⟩
  · intro l
    have e : outM (fun x y => decide (nOf x ≠ nOf y)) (fun x y => keyOf (nOf x, nOf y)) (fun x y => enc (L (nOf x) (nOf y))) (intsD 0 n) (intsD 0 n) = tabM enc n L := by
      have h4 := fold_new (e := fun q => enc (L q.1 q.2)) (pairs n) [] pairs_nd (by simp)
      rw [List.nil_append] at h4
      unfold tabM
      rw [← h4]
      unfold outM innM pairs
      rw [intsD_eq, List.foldl_map, List.foldl_flatMap]
      congr 1
      funext m x
      rw [List.foldl_map, List.foldl_map, List.foldl_filter]
      simp only [nOf_nD]
    rw [e]
    exact done l
def p_all_lets : DRn := fun ds k => ∃ R ss, ds = [bookD R ss] ∧ BkOk R ss ∧ k (dictD (tabM letsD R.length (tabOf R ss)))
theorem common_len {a b : List Sd} : (common a b).length ≤ a.length := List.length_filter_le _ _
theorem tabLen_add {L : Tab} {s : Say} {x y k : Nat} (h : (L x y).length ≤ k) : (addSay L s x y).length ≤ k := by
  unfold addSay
  split
  · exact Nat.le_trans common_len h
  · split
    · exact Nat.le_trans common_len h
    · exact h
theorem addSay_upd {L : Tab} {s : Say} (hn : s.1 ≠ s.2.1) : addSay L s = upd2 (upd2 L s.1 s.2.1 (common (L s.1 s.2.1) s.2.2)) s.2.1 s.1 (common (upd2 L s.1 s.2.1 (common (L s.1 s.2.1) s.2.2) s.2.1 s.1) (turned s.2.2)) := by
  obtain ⟨a, b, l⟩ := s
  funext x y
  simp only [addSay, upd2]
  have hn : a ≠ b := hn
  by_cases h1 : x = a ∧ y = b
  · obtain ⟨rfl, rfl⟩ := h1
    have h2 : ¬ (x = y ∧ y = x) := fun h => hn h.1
    simp [h2, hn]
  · by_cases h2 : x = b ∧ y = a
    · obtain ⟨rfl, rfl⟩ := h2
      have h3 : ¬ (x = y ∧ y = x) := fun h => hn h.2
      simp [h3, h1]
    · simp [h1, h2]
theorem sub_len {R : List Nat} {s : Say} (hR : ROk R) (h : SayOk R s) : s.2.2.length ≤ 9 := Nat.le_trans h.2.2.2.length_le (allSd_len hR h.1 h.2.1)
theorem key_map {a b : Nat} : [nD a, nD b] = (keyOf (a, b)).map keyD := rfl
theorem r_all_lets : ∀ ds kk, p_all_lets ds kk → d_all_lets p_all_standings p_common_lets p_turned_lets (fin kk) (env0 8 (ds.map .dat)) := by
  rintro ds kk ⟨R, ss, rfl, hB, h⟩
  have hR := hB.rooms
  have hl := hR.len
  simp [d_all_lets, env0, -Prod.exists, -Prod.forall]
  refine ⟨by omega, dtOf_ints (enc := letsD) (L := allSd R) (by omega) (by simp [Slot.ads]) ?_ ?_ ?_ ?_ ?_ fun l => ?_⟩
  · intro x hx
    simp [wipeD]
    try omega
  · rintro x hx y hy _ rfl
    simp [wipeD]
  · rintro x hx y hy hn _ rfl
    simp [wipeD, p_all_standings, hR, hx, hy]
  · intro P Q ρ hPQ h
    simp at h ⊢
    obtain ⟨d, h1, d2, h2, o1, o2, h3⟩ := h
    exact ⟨d, h1, d2, h2, o1, o2, h3.imp (fun h => ⟨h.1, hPQ _ _ h.2⟩) fun h => ⟨h.1, hPQ _ _ h.2⟩⟩
  · intro P Q ρ hPQ h
    simp at h ⊢
    obtain ⟨d, h1, d2, h2, h3⟩ := h
    exact ⟨d, h1, d2, h2, hPQ _ _ h3⟩
  simp [-Prod.exists, -Prod.forall]
  obtain ⟨W, hW⟩ := opq fun i ρ => ∃ L s1 s2 s3, ρ = [.dat (bookD R ss), .dat (lotD R), .dat (saysD ss), .dat (nD R.length), s1, s2, .dT l ((tabM letsD R.length L).map encKV), s3] ∧ (∀ x y, x < R.length → y < R.length → (L x y).length ≤ 9) ∧ L = (ss.take i).foldl addSay (allSd R) ∧ (s1.ads = [] ∧ s2.ads = [] ∧ s3.ads = [])
  refine forOf_map ss sayD W ((hW _ _).mpr ⟨allSd R, .no, .no, .no, rfl, fun x y hx hy => allSd_len hR hx hy, by simp, rfl, rfl, rfl⟩) ?_ ?_
  · intro i s ρ' hs w
    obtain ⟨L, s1, s2, s3, rfl, hLl, hL, _⟩ := (hW _ _).mp w
    have hS := hB.says s (List.mem_of_getElem? hs)
    obtain ⟨q1, q2, q3, q4⟩ := hS
    have c1 := hLl s.1 s.2.1 q1 q2
    have c2 := hLl s.2.1 s.1 q2 q1
    have tl := tab_len (enc := letsD) (n := R.length) (L := L)
    have hmm := Nat.mul_le_mul hl hl
    simp [-Prod.exists, -Prod.forall]
    have sl := sub_len hR (hB.says s (List.mem_of_getElem? hs))
    have tl2 := tab_len (enc := letsD) (n := R.length) (L := upd2 L s.1 s.2.1 (common (L s.1 s.2.1) s.2.2))
    have q3' : s.2.1 ≠ s.1 := fun e => q3 e.symm
    have c3 : (upd2 L s.1 s.2.1 (common (L s.1 s.2.1) s.2.2) s.2.1 s.1).length ≤ 9 := by
      unfold upd2
      split
      · exact Nat.le_trans common_len c1
      · exact c2
    refine ⟨_, rfl, keyOf (s.1, s.2.1), rfl, by simp [keyOf], _, look_tab q1 q2 q3, _, _, rfl, by omega, _, rfl, keyOf (s.1, s.2.1), rfl, by simp [keyOf], by omega, ?_⟩
    rw [put_tab q1 q2 q3]
    refine ⟨_, rfl, keyOf (s.2.1, s.1), rfl, by simp [keyOf], _, look_tab q2 q1 q3', _, rfl, by omega, _, _, rfl, by omega, _, rfl, keyOf (s.2.1, s.1), rfl, by simp [keyOf], by omega, ?_⟩
    rw [put_tab q2 q1 q3']
    refine (hW _ _).mpr ⟨addSay L s, _, _, _, by rw [addSay_upd q3], fun x y hx hy => tabLen_add (hLl x y hx hy), ?_, rfl, rfl, rfl⟩
    rw [List.take_add_one, hs, List.foldl_append, ← hL]
    rfl
  · intro ρ' w
    obtain ⟨L, s1, s2, s3, rfl, hLl, hL, _⟩ := (hW _ _).mp w
    simp [-Prod.exists, -Prod.forall]
    rw [List.take_of_length_le (Nat.le_refl _)] at hL
    subst hL
    exact h
end DL
end
section
set_option Elab.async false
set_option maxRecDepth 100000
set_option linter.all false
namespace DL
open PySem L2 L2.DC L2.GD MM
@[simp] theorem okAp : okD 60 (.tuple [.str "apart", .int 0]) = True := eq_true (ok_pair (k := 59) (n := 0) so1)
@[simp] theorem okAr {r : Nat} : okD 60 (.tuple [.str "around", nD r]) = True := eq_true (ok_pair (k := 59) so3)
theorem it_w1 {R : List Nat} {L : Tab} : items (worldD R L) = some [lotD R, dictD (tabM letsD R.length L), lotsD (near R.length L)] := rfl
def p_first_broken : DRn := fun ds k => ∃ R ss f, ds = [bookD R ss, forestD f] ∧ BkOk R ss ∧ Good R f ∧ (∀ s ∈ ss, stand f s.1 s.2.1 ∈ s.2.2) ∧ k .none
theorem r_first_broken : ∀ ds kk, p_first_broken ds kk → d_first_broken p_standing_in (fin kk) (env0 6 (ds.map .dat)) := by
  rintro ds kk ⟨R, ss, f, rfl, hB, g, hk, h⟩
  simp [d_first_broken, env0]
  refine forOf_enum ss sayD (fun i ρ' => ∃ a b c d, ρ' = [.dat (bookD R ss), .dat (forestD f), a, b, c, d]) ⟨_, _, _, _, rfl⟩ ?_ ?_
  · rintro i s ρ' hs ⟨s1, s2, s3, s4, rfl⟩
    have hm := List.mem_of_getElem? hs
    have hS := hB.says s hm
    simp [p_standing_in, -Prod.exists]
    exact ⟨R, g, hB.rooms.len, hS.1, hS.2.1, by simp [hk s hm]⟩
  · rintro ρ' ⟨s1, s2, s3, s4, rfl⟩
    exact h
def p_keeps : DRn := fun ds k => ∃ R ss f, ds = [bookD R ss, forestD f] ∧ BkOk R ss ∧ Good R f ∧ (∀ s ∈ ss, stand f s.1 s.2.1 ∈ s.2.2) ∧ k (.bool true)
theorem r_keeps : ∀ ds kk, p_keeps ds kk → d_keeps p_is_book p_is_forest p_first_broken (fin kk) (env0 2 (ds.map .dat)) := by
  rintro ds kk ⟨R, ss, f, rfl, hB, g, hk, h⟩
  simp [d_keeps, env0, p_is_book, p_is_forest, p_first_broken, hB, hB.rooms, g, -Prod.exists, -Prod.forall]
  exact ⟨hk, h⟩
def p_near_of : DRn := fun ds k => ∃ R L, ds = [lotD R, dictD (tabM letsD R.length L)] ∧ ROk R ∧ k (lotsD (near R.length L))
theorem dd_inj {a b : KMap} : dictD a = dictD b ↔ a.map encKV = b.map encKV := ⟨fun h => by unfold dictD at h; simpa using h, fun h => by unfold dictD; rw [h]⟩
theorem r_near_of : ∀ ds kk, p_near_of ds kk → d_near_of (fin kk) (env0 5 (ds.map .dat)) := by
  rintro ds kk ⟨R, L, rfl, hR, h⟩
  have hl := hR.len
  simp [d_near_of, env0]
  refine ⟨by omega, ?_⟩
  rw [intsD_eq]
  refine lcOf_all _ nD (fun x => lotD ((List.range R.length).filter fun y => decide (y ≠ x) && linked L x y)) (by simp; omega) (by simp [Slot.ads]) (by simp) (fun x hx Y hY => ?_) fun l => ?_
  · have hx : x < R.length := by simpa using hx
    simp [wipeD]
    refine ⟨by omega, ?_⟩
    rw [intsD_eq]
    refine lcOf_map _ nD (fun y => decide (y ≠ x) && linked L x y) nD (by simp; omega) (by simp [Slot.ads]) (by simp) (fun y hy Y2 N2 hY2 hN2 => ?_) fun l2 => ?_
    · have hy : y < R.length := by simpa using hy
      by_cases hn : y = x
      · subst hn
        simp [wipeD]
        exact hN2 _ (by simp [wipeD]) (by simp)
      · have hlk := look_tab (enc := letsD) (L := L) hx hy (fun e => hn e.symm)
        simp [wipeD, hn]
        refine ⟨_, rfl, keyOf (x, y), rfl, by simp [keyOf], _, hlk, ?_⟩
        by_cases hap : Sd.apart ∈ L x y
        · simp [hap]
          refine hN2 _ (by simp [wipeD]) (by simp [linked, hap])
        · simp [hap]
          exact hY2 _ (by simp [wipeD]) (by simp [linked, hap, hn])
    · simp [wipeD]
      have := hY [.dat (lotD R), .dat (dictD (tabM letsD R.length L)), .dat (.int R.length), .dat (nD x), .no] (by simp [wipeD])
      simpa [lotD] using this
  · simpa [lotsD, near, Function.comp_def] using h
def p_world_of : DRn := fun ds k => ∃ R ss, ds = [bookD R ss] ∧ BkOk R ss ∧ k (worldD R (tabOf R ss))
theorem r_world_of : ∀ ds kk, p_world_of ds kk → d_world_of p_all_lets p_near_of (fin kk) (env0 2 (ds.map .dat)) := by
  rintro ds kk ⟨R, ss, rfl, hB, h⟩
  simp [d_world_of, env0, p_all_lets, p_near_of, hB, -Prod.exists]
  exact ⟨tabOf R ss, rfl, hB.rooms, h⟩
def p_without : DRn := fun ds k => ∃ l t, ds = [lotD l, nD t] ∧ l.length ≤ 1000 ∧ k (lotD (less l t))
theorem r_without : ∀ ds kk, p_without ds kk → d_without (fin kk) (env0 3 (ds.map .dat)) := by
  rintro ds kk ⟨l, t, rfl, hl, h⟩
  simp [d_without, env0]
  refine lcOf_map l nD (fun x => decide (x ≠ t)) nD (by omega) (by simp [Slot.ads]) (by simp) (fun x hx Y N hY hN => ?_) fun l => ?_
  · by_cases e : x = t <;> simp [wipeD, e]
    · exact hN _ (by simp [wipeD]) (by simpa)
    · exact hY _ (by simp [wipeD]) (by simpa)
  · simpa [lotD, less] using h
end DL
end
section
set_option Elab.async false
set_option maxRecDepth 100000
set_option linter.all false
namespace DL
open PySem L2 L2.DC L2.GD MM
def nK (n : Nat) : Key := .inl (n : Int)
theorem nK_inj {a b : Nat} : nK a = nK b ↔ a = b := ⟨fun h => by have := Sum.inl.inj h; omega, fun h => by rw [h]⟩
@[simp] theorem key_nD {a : Nat} {k : Key} : (nD a = keyD k) = (k = nK a) := propext ⟨fun h => by
  cases k with
  | inl i => simp [keyD] at h; rw [← h]; rfl
  | inr x => simp [keyD, nD] at h, fun h => by rw [h]; rfl⟩
@[simp] theorem has_nK {l : List Nat} {a : Nat} : hasK (l.map nK) (nK a) = decide (a ∈ l) := by
  unfold hasK
  induction l with
  | nil => simp
  | cons x l ih =>
    rw [List.map_cons, List.any_cons, ih]
    by_cases h : a = x
    · simp [h]
    · have : ¬ x = a := fun e => h e.symm
      simp [h, this, nK_inj]
def KcOf (xs : List PyData) (v : Nat) (ρ1 : Env) (k : Slot → Env → Prop) : Prop := ∃ ks : List Key, xs = ks.map keyD ∧ ks.Nodup ∧ ks.length ≤ 1000000 ∧ (ρ1.getD v .no).ads = [] ∧ v < ρ1.length ∧ ∀ l, k (.dK l ks) ρ1
@[simp] theorem dKc_eq {ι : DTA} {v : Nat} : dKc ι v = fun ρ k => ι ρ fun xs ρ1 => KcOf xs v ρ1 k := rfl
theorem kcOf_n {l : List Nat} {v : Nat} {ρ1 : Env} {k : Slot → Env → Prop} (nd : l.Nodup) (hl : l.length ≤ 1000000) (ha : (ρ1.getD v .no).ads = []) (hv : v < ρ1.length) (h : ∀ a, k (.dK a (l.map nK)) ρ1) : KcOf (l.map nD) v ρ1 k :=
  ⟨l.map nK, by rw [List.map_map]; rfl, List.Pairwise.map _ (fun a b h e => h (nK_inj.mp e)) nd, by simpa using hl, ha, hv, h⟩
/-- lots: things of the forest, each once, in order -/
structure LotOk (n : Nat) (lot : List Nat) : Prop where
  lt : ∀ x ∈ lot, x < n
  nd : lot.Pairwise (· < ·)
theorem LotOk.nodup {n : Nat} {lot : List Nat} (h : LotOk n lot) : lot.Nodup := h.nd.imp fun h => by omega
theorem LotOk.len {n : Nat} {lot : List Nat} (h : LotOk n lot) : lot.length ≤ n := nodup_le h.nodup h.lt
theorem LotOk.filter {n : Nat} {lot : List Nat} (h : LotOk n lot) (p : Nat → Bool) : LotOk n (lot.filter p) := ⟨fun x hx => h.lt x (List.mem_filter.mp hx).1, h.nd.filter p⟩
theorem near_get {n x : Nat} {L : Tab} (hx : x < n) : (near n L)[x]? = some ((List.range n).filter fun y => decide (y ≠ x) && linked L x y) := by
  unfold near
  rw [List.getElem?_map, List.getElem?_range hx]
  rfl
def p_reached : DRn := fun ds k => ∃ n L lot s, ds = [lotsD (near n L), lotD lot, nD s] ∧ n ≤ 24 ∧ LotOk n lot ∧ s ∈ lot ∧ k (lotD (partOf L lot s))
/-- met so far, waiting -/
structure Met (L : Tab) (lot : List Nat) (s : Nat) (ms ws : List Nat) : Prop where
  nd : ms.Nodup
  sub : ∀ x ∈ ms, x ∈ lot ∧ Conn L lot s x
  start : s ∈ ms
  wsub : ∀ x ∈ ws, x ∈ ms
theorem Met.len {L : Tab} {lot : List Nat} {s : Nat} {ms ws : List Nat} (h : Met L lot s ms ws) (nd : lot.Nodup) : ms.length ≤ lot.length := by
  have : ∀ {l m : List Nat}, l.Nodup → m.Nodup → (∀ x ∈ l, x ∈ m) → l.length ≤ m.length := by
    intro l
    induction l with
    | nil => intros; simp
    | cons a l ih =>
      intro m n1 n2 hs
      obtain ⟨h1, h2⟩ := List.nodup_cons.mp n1
      have ha := hs a List.mem_cons_self
      have := ih (m := m.erase a) h2 (n2.erase a) fun x hx => (List.mem_erase_of_ne (fun e => h1 (by rw [← e]; exact hx))).mpr (hs x (List.mem_cons_of_mem _ hx))
      rw [List.length_erase_of_mem ha] at this
      have := List.length_pos_of_mem ha
      simp
      omega
  exact this h.nd nd fun x hx => (h.sub x hx).1
theorem Met.add {L : Tab} {lot : List Nat} {s x y : Nat} {ms ws : List Nat} (h : Met L lot s ms ws) (hx : x ∈ ms) (hy : y ∈ lot) (hn : y ∉ ms) (hne : y ≠ x) (hl : linked L x y = true) : Met L lot s (ms ++ [y]) (ws ++ [y]) := by
  refine ⟨List.nodup_append.mpr ⟨h.nd, by simp, fun a ha b hb e => ?_⟩, fun z hz => ?_, List.mem_append_left _ h.start, fun z hz => ?_⟩
  · have : b = y := by simpa using hb
    subst this
    subst e
    exact hn ha
  · rcases List.mem_append.mp hz with hz | hz
    · exact h.sub z hz
    · have : z = y := by simpa using hz
      subst this
      exact ⟨hy, .step (h.sub x hx).2 hy hne hl⟩
  · rcases List.mem_append.mp hz with hz | hz
    · exact List.mem_append_left _ (h.wsub z hz)
    · exact List.mem_append_right _ hz
theorem part_of_met {L : Tab} {lot : List Nat} {s : Nat} {ms : List Nat} (h : Met L lot s ms []) (hc : ∀ x ∈ ms, ∀ y ∈ lot, y ≠ x → linked L x y = true → y ∈ ms) : lot.filter (fun x => decide (x ∈ ms)) = partOf L lot s := by
  unfold partOf
  apply List.filter_congr
  intro x hx
  have : x ∈ ms ↔ Conn L lot s x := by
    constructor
    · intro hm
      exact (h.sub x hm).2
    · intro hc'
      induction hc' with
      | refl => exact h.start
      | @step b c h1 h2 h3 h4 ih =>
        have hb : b ∈ ms := by
          cases h1 with
          | refl => exact h.start
          | step g1 g2 g3 g4 => exact ih g2
        exact hc b hb c h2 h3 h4
  simp [this]
theorem r_reached : ∀ ds kk, p_reached ds kk → d_reached (fin kk) (env0 8 (ds.map .dat)) := by
  rintro ds kk ⟨n, L, lot, s, rfl, hn, hlot, hs, h⟩
  have hl := hlot.len
  simp [d_reached, env0]
  refine kcOf_n hlot.nodup (by omega) (by simp [Slot.ads]) (by simp) fun a1 => ?_
  simp
  intro a2 a3
  obtain ⟨W, hW⟩ := opq fun m ρ => ∃ ms ws s3 s7, ρ = [.dat (lotsD (near n L)), .dat (lotD lot), .dat (nD s), s3, .dK a1 (lot.map nK), .dK a2 (ms.map nK), .lst a3 (ws.map nD), s7] ∧ Met L lot s ms ws ∧
    (∀ x ∈ ms, x ∉ ws → ∀ y ∈ lot, y ≠ x → linked L x y = true → y ∈ ms) ∧ m = 2 * (lot.length - ms.length) + ws.length ∧ s3.ads = [] ∧ s7.ads = [] ∧ m ≤ 48
  refine ⟨W, ⟨_, (hW _ _).mpr ⟨[s], [s], .no, .no, rfl, ⟨by simp, fun x hx => by simp at hx; subst hx; exact ⟨hs, .refl⟩, by simp, fun x hx => hx⟩, fun x hx hn => absurd hx hn, rfl, rfl, rfl, by simp; omega⟩⟩, ?_⟩
  intro m ρ w
  obtain ⟨ms, ws, s3, s7, rfl, hM, hc, rfl, ha3, ha7, h48⟩ := (hW _ _).mp w
  have hml := hM.len hlot.nodup
  rcases List.eq_nil_or_concat ws with rfl | ⟨ws', x, rfl⟩
  · simp
    refine lcOf_map lot nD (fun x => decide (x ∈ ms)) nD (by omega) (by simp [ha3]) (by simp) (fun y hy Y N hY hN => ?_) fun l => ?_
    · simp [wipeD, dInK]
      split
      · exact hY _ (by simp [wipeD]) (by simpa)
      · exact hN _ (by simp [wipeD]) (by simpa)
    · simp
      have e := part_of_met hM (fun x hx y hy hne hlk => hc x hx (by simp) y hy hne hlk)
      rw [e]
      exact h
  · have hxm : x ∈ ms := hM.wsub x (by simp)
    have hxn : x < n := hlot.lt x (hM.sub x hxm).1
    have hcc : ∀ z, z ∈ ms → z ∉ ws' → z ≠ x → ∀ y ∈ lot, y ≠ z → linked L z y = true → y ∈ ms := fun z h1 h2 h3 => hc z h1 (by simp [h2, h3])
    simp at h48
    have hM1 : Met L lot s ms ws' := ⟨hM.nd, hM.sub, hM.start, fun z hz => hM.wsub z (by simp [hz])⟩
    simp
    obtain ⟨V, hV⟩ := opq fun i ρ => ∃ ms' ws2 s7, ρ = [.dat (lotsD (near n L)), .dat (lotD lot), .dat (nD s), .dat (nD x), .dK a1 (lot.map nK), .dK a2 (ms'.map nK), .lst a3 (ws2.map nD), s7] ∧ Met L lot s ms' ws2 ∧ x ∈ ms' ∧
      (∀ y ∈ ((List.range n).filter fun y => decide (y ≠ x) && linked L x y).take i, y ∈ lot → y ∈ ms') ∧ (∀ z, z ∈ ms' → z ∉ ws2 → z ≠ x → ∀ y ∈ lot, y ≠ z → linked L z y = true → y ∈ ms') ∧
      2 * (lot.length - ms'.length) + ws2.length ≤ 2 * (lot.length - ms.length) + ws'.length ∧ s7.ads = []
    refine ⟨_, ⟨_, near_get hxn, rfl⟩, _, rfl, forOf_map _ nD V ((hV _ _).mpr ⟨ms, ws', s7, rfl, hM1, hxm, by simp, hcc, Nat.le_refl _, ha7⟩) ?_ ?_⟩
    · intro i y ρ' hy v
      obtain ⟨ms', ws2, s7', rfl, hM', hx', hnb, hcl, hme, _⟩ := (hV _ _).mp v
      have hym := List.mem_filter.mp (List.mem_of_getElem? hy)
      have hyn : y < n := by simpa using hym.1
      have hyl : y ≠ x ∧ linked L x y = true := by simpa using hym.2
      have hml' := hM'.len hlot.nodup
      have tk := List.take_add_one (l := (List.range n).filter fun y => decide (y ≠ x) && linked L x y) (i := i)
      rw [hy] at tk
      by_cases h1 : y ∈ lot
      · by_cases h2 : y ∈ ms'
        · simp [dInK, dNotInK, h1, h2]
          refine (hV _ _).mpr ⟨ms', ws2, _, rfl, hM', hx', fun z hz hzl => ?_, hcl, hme, rfl⟩
          rw [tk] at hz
          rcases List.mem_append.mp hz with hz | hz
          · exact hnb z hz hzl
          · have : z = y := by simpa using hz
            exact this ▸ h2
        · have hM2 := hM'.add hx' h1 h2 hyl.1 hyl.2
          have hml2 := hM2.len hlot.nodup
          simp at hml2
          have hwl : ws2.length < 1000000 := by omega
          simp [dInK, dNotInK, dPutK, h1, h2, has_nK]
          refine ⟨by omega, by omega, ?_⟩
          refine (hV _ _).mpr ⟨ms' ++ [y], ws2 ++ [y], .dat (nD y), by simp, hM2, List.mem_append_left _ hx', fun z hz hzl => ?_, fun z hz hzw hzx u hu hne hlk => ?_, by simp; omega, rfl⟩
          · rw [tk] at hz
            rcases List.mem_append.mp hz with hz | hz
            · exact List.mem_append_left _ (hnb z hz hzl)
            · have : z = y := by simpa using hz
              subst this
              simp
          · have hz' : z ∈ ms' := by
              rcases List.mem_append.mp hz with hz | hz
              · exact hz
              · exact absurd (List.mem_append_right ws2 hz) hzw
            exact List.mem_append_left _ (hcl z hz' (fun e => hzw (List.mem_append_left _ e)) hzx u hu hne hlk)
      · simp [dInK, dNotInK, h1]
        refine (hV _ _).mpr ⟨ms', ws2, _, rfl, hM', hx', fun z hz hzl => ?_, hcl, hme, rfl⟩
        rw [tk] at hz
        rcases List.mem_append.mp hz with hz | hz
        · exact hnb z hz hzl
        · have : z = y := by simpa using hz
          subst this
          exact absurd hzl h1
    · intro ρ' v
      obtain ⟨ms', ws2, s7', rfl, hM', hx', hnb, hcl, hme, h7⟩ := (hV _ _).mp v
      rw [List.take_of_length_le (Nat.le_refl _)] at hnb
      refine ⟨_, by omega, (hW _ _).mpr ⟨ms', ws2, _, _, rfl, hM', fun z hz hzw u hu hne hlk => ?_, rfl, rfl, h7, by omega⟩⟩
      by_cases hzx : z = x
      · subst hzx
        exact hnb u (by simpa [hne, hlk] using hlot.lt u hu) hu
      · exact hcl z hz hzw hzx u hu hne hlk
def p_parts_in : DRn := fun ds k => ∃ R L lot, ds = [worldD R L, lotD lot] ∧ ROk R ∧ LotOk R.length lot ∧ k (lotsD (parts L lot))
theorem partsF_len {L : Tab} : ∀ k lot, (partsF L k lot).length ≤ k
  | 0, _ => by simp [partsF]
  | k + 1, [] => by simp [partsF]
  | k + 1, a :: l => by
    have := partsF_len (L := L) k (rest L (a :: l) a)
    simp [partsF]
    exact this
theorem parts_len {L : Tab} {lot : List Nat} : (parts L lot).length ≤ lot.length := partsF_len _ _
theorem r_parts_in : ∀ ds kk, p_parts_in ds kk → d_parts_in p_reached (fin kk) (env0 6 (ds.map .dat)) := by
  rintro ds kk ⟨R, L, lot, rfl, hR, hlot, h⟩
  have hl := hR.len
  simp [d_parts_in, env0]
  intro a1
  obtain ⟨W, hW⟩ := opq fun m ρ => ∃ told left s4 s5, ρ = [.dat (worldD R L), .dat (lotD lot), .lst a1 (told.map lotD), .dat (lotD left), s4, s5] ∧ LotOk R.length left ∧ told ++ parts L left = parts L lot ∧ m = left.length ∧ s4.ads = [] ∧ s5.ads = []
  refine ⟨W, ⟨_, (hW _ _).mpr ⟨[], lot, .no, .no, rfl, hlot, rfl, rfl, rfl, rfl⟩⟩, ?_⟩
  intro m ρ w
  obtain ⟨told, left, s4, s5, rfl, hlo, hto, rfl, h4, h5⟩ := (hW _ _).mp w
  cases left with
  | nil =>
    rw [parts_nil, List.append_nil] at hto
    subst hto
    simpa [lotsD] using h
  | cons a l =>
    have hpl := parts_len (L := L) (lot := lot)
    have hlt := (show LotOk R.length lot from hlot).len
    have htl : told.length ≤ 24 := by
      have := congrArg List.length hto
      simp at this
      omega
    have hal := hlo.len
    simp [p_reached]
    refine ⟨R.length, L, rfl, hl, hlo, by omega, lcOf_map (a :: l) nD (fun x => decide (x ∉ partOf L (a :: l) a)) nD (by omega) (by simp [h5]) (by simp) (fun y hy Y N hY hN => ?_) fun l1 => ?_⟩
    · by_cases e : y ∈ partOf L (a :: l) a <;> simp [wipeD, e]
      · exact hN _ (by simp [wipeD]) (by simpa)
      · exact hY _ (by simp [wipeD]) (by simpa)
    · simp
      refine ⟨(rest L (a :: l) a).length, by have := rest_lt (L := L) (a := a) (l := l); simpa [Nat.lt_succ_iff] using this, (hW _ _).mpr ⟨told ++ [partOf L (a :: l) a], rest L (a :: l) a, .dat (lotD (partOf L (a :: l) a)), s5, ?_, hlo.filter _, ?_, rfl, rfl, h5⟩⟩
      · simp [lotD, MM.rest]
      · rw [← hto, parts_cons]
        simp
end DL
end
section
set_option Elab.async false
set_option maxRecDepth 100000
set_option linter.all false
namespace DL
open PySem L2 L2.DC L2.GD MM
theorem okLo' {l : List Nat} : okD 60 (lotD l) = True := okLo
/-! what is over a part, free things -/
def p_shut_out : DRn := fun ds k => ∃ R L t r part, ds = [worldD R L, nD t, nD r, lotD part] ∧ ROk R ∧ t < R.length ∧ (∀ c ∈ part, c < R.length ∧ c ≠ t) ∧ part.length ≤ 24 ∧ k (lotD (part.filter fun c => decide (Sd.aro r ∉ L t c)))
theorem r_shut_out : ∀ ds kk, p_shut_out ds kk → d_shut_out (fin kk) (env0 5 (ds.map .dat)) := by
  rintro ds kk ⟨R, L, t, r, part, rfl, hR, ht, hp, hl, h⟩
  simp [d_shut_out, env0]
  refine lcOf_map part nD (fun c => decide (Sd.aro r ∉ L t c)) nD (by omega) (by simp [Slot.ads]) (by simp) (fun c hc Y N hY hN => ?_) fun l => ?_
  · obtain ⟨h1, h2⟩ := hp c hc
    have hlk := look_tab (enc := letsD) (L := L) ht h1 (fun e => h2 e.symm)
    simp [wipeD]
    refine ⟨_, rfl, keyOf (t, c), rfl, by simp [keyOf], _, hlk, ?_⟩
    by_cases e : Sd.aro r ∈ L t c <;> simp [e]
    · exact hN _ (by simp [wipeD]) (by simpa)
    · exact hY _ (by simp [wipeD]) (by simpa)
  · simpa [lotD] using h
theorem over_len {R : List Nat} (hR : ROk R) {L : Tab} {t : Nat} (ht : t < R.length) {part : List Nat} : (over R L t part).length ≤ 4 := by
  have h1 := rmost hR ht
  have h2 := List.length_filter_le (fun r => part.all fun c => decide (Sd.aro r ∈ L t c)) (List.range (R.getD t 0))
  rw [List.length_range, getI' ht] at h2
  unfold over
  rw [getI' ht]
  omega
def p_over_in : DRn := fun ds k => ∃ R L t part, ds = [worldD R L, nD t, lotD part] ∧ ROk R ∧ t < R.length ∧ (∀ c ∈ part, c < R.length ∧ c ≠ t) ∧ part.length ≤ 24 ∧ k (lotD (over R L t part))
theorem r_over_in : ∀ ds kk, p_over_in ds kk → d_over_in p_shut_out (fin kk) (env0 4 (ds.map .dat)) := by
  rintro ds kk ⟨R, L, t, part, rfl, hR, ht, hp, hl, h⟩
  have h4 := rmost hR ht
  simp [d_over_in, env0, ht]
  refine ⟨by omega, ?_⟩
  rw [intsD_eq]
  refine lcOf_map _ nD (fun r => part.all fun c => decide (Sd.aro r ∈ L t c)) nD (by simp; omega) (by simp [Slot.ads]) (by simp) (fun r hr Y N hY hN => ?_) fun l => ?_
  · simp [wipeD, p_shut_out]
    refine ⟨R, L, rfl, hR, ht, hp, hl, ?_⟩
    split
    · rename_i e
      exact hY _ (by simp [wipeD]) (by simpa using e)
    · rename_i e
      exact hN _ (by simp [wipeD]) (by simpa using e)
  · simpa [lotD, over, ht] using h
theorem part_sub {L : Tab} {lot p : List Nat} : ∀ k, (∀ l : List Nat, l.length ≤ k → p ∈ partsF L k l → p.Sublist l)
  | 0, l, hl, hp => by simp [partsF] at hp
  | k + 1, [], hl, hp => by simp [partsF] at hp
  | k + 1, a :: l, hl, hp => by
    have h1 := rest_lt (L := L) (a := a) (l := l)
    rcases List.mem_cons.mp hp with rfl | hp
    · exact List.filter_sublist
    · exact (part_sub (lot := lot) k _ (by simp only [List.length_cons] at hl h1; omega) hp).trans List.filter_sublist
theorem parts_sub {L : Tab} {lot p : List Nat} (h : p ∈ parts L lot) : p.Sublist lot := part_sub (lot := lot) lot.length lot (Nat.le_refl _) h
theorem LotOk.sub {n : Nat} {lot p : List Nat} (h : LotOk n lot) (s : p.Sublist lot) : LotOk n p := ⟨fun x hx => h.lt x (s.subset hx), h.nd.sublist s⟩
theorem LotOk.less {n : Nat} {lot : List Nat} (h : LotOk n lot) (t : Nat) : LotOk n (less lot t) := h.filter _
noncomputable def stuckD (R : List Nat) (L : Tab) (lot : List Nat) (t : Nat) : PyData := match (parts L (less lot t)).find? fun p => decide (over R L t p = []) with
  | none => .none
  | some p => lotD p
def p_stuck_part : DRn := fun ds k => ∃ R L lot t, ds = [worldD R L, lotD lot, nD t] ∧ ROk R ∧ LotOk R.length lot ∧ t < R.length ∧ k (stuckD R L lot t)
theorem find_take {α : Type} {l : List α} {p : α → Bool} : ∀ {i : Nat} {a : α}, l[i]? = some a → (∀ b ∈ l.take i, p b = false) → p a = true → l.find? p = some a := by
  induction l with
  | nil => intro i a h; simp at h
  | cons b l ih =>
    intro i a h hn hp
    cases i with
    | zero =>
      simp at h
      subst h
      rw [List.find?_cons, hp]
    | succ i =>
      rw [List.find?_cons, hn b (by simp)]
      exact ih (by simpa using h) (fun c hc => hn c (by simp [hc])) hp
theorem r_stuck_part : ∀ ds kk, p_stuck_part ds kk → d_stuck_part p_parts_in p_without p_over_in (fin kk) (env0 4 (ds.map .dat)) := by
  rintro ds kk ⟨R, L, lot, t, rfl, hR, hlot, ht, h⟩
  have hl := hR.len
  have hll := hlot.len
  simp [d_stuck_part, env0, p_without]
  refine ⟨by omega, ?_⟩
  simp [p_parts_in]
  refine ⟨R, L, rfl, hR, hlot.less t, ?_⟩
  obtain ⟨W, hW⟩ := opq fun i ρ => ∃ s, ρ = [.dat (worldD R L), .dat (lotD lot), .dat (nD t), s] ∧ ∀ p ∈ (parts L (less lot t)).take i, over R L t p ≠ []
  refine forOf_map _ lotD W ((hW _ _).mpr ⟨_, rfl, by simp⟩) ?_ ?_
  · intro i p ρ' hp w
    obtain ⟨s, rfl, hno⟩ := (hW _ _).mp w
    have hpm := List.mem_of_getElem? hp
    have hps := (parts_sub hpm)
    have hpl := ((hlot.less t).sub hps)
    simp [p_over_in]
    refine ⟨R, L, rfl, hR, ht, fun c hc => ⟨hpl.lt c hc, ?_⟩, by have := hpl.len; omega, ?_⟩
    · have := hps.subset hc
      have := (List.mem_filter.mp this).2
      simpa using this
    · by_cases e : over R L t p = []
      · have hf := find_take (p := fun p => decide (over R L t p = [])) hp (fun b hb => by simpa using hno b hb) (by simpa using e)
        unfold stuckD at h
        rw [hf] at h
        simp [e]
        exact h
      · simp [e]
        refine (hW _ _).mpr ⟨_, rfl, fun q hq => ?_⟩
        rw [List.take_add_one, hp] at hq
        rcases List.mem_append.mp hq with hq | hq
        · exact hno q hq
        · have : q = p := by simpa using hq
          exact this ▸ e
  · intro ρ' w
    obtain ⟨s, rfl, hno⟩ := (hW _ _).mp w
    rw [List.take_of_length_le (Nat.le_refl _)] at hno
    have hf : (parts L (less lot t)).find? (fun p => decide (over R L t p = [])) = none := List.find?_eq_none.mpr fun p hp => by simpa using hno p hp
    unfold stuckD at h
    rw [hf] at h
    exact h
theorem stuck_non {R : List Nat} {L : Tab} {lot : List Nat} {t : Nat} : isN (stuckD R L lot t) = isFree R L lot t := by
  unfold stuckD isFree
  cases e : (parts L (less lot t)).find? fun p => decide (over R L t p = []) with
  | none =>
    have := List.find?_eq_none.mp e
    symm
    rw [isN_n, List.all_eq_true]
    intro p hp
    simpa using this p hp
  | some p =>
    have h1 := List.mem_of_find?_eq_some e
    have h2 : over R L t p = [] := by simpa using List.find?_some e
    symm
    rw [ni_lo, List.all_eq_false]
    exact ⟨p, h1, by simp [h2]⟩
def p_free_in : DRn := fun ds k => ∃ R L lot, ds = [worldD R L, lotD lot] ∧ ROk R ∧ LotOk R.length lot ∧ k (lotD (freeIn R L lot))
theorem r_free_in : ∀ ds kk, p_free_in ds kk → d_free_in p_stuck_part (fin kk) (env0 3 (ds.map .dat)) := by
  rintro ds kk ⟨R, L, lot, rfl, hR, hlot, h⟩
  have hl := hR.len
  have hll := hlot.len
  simp [d_free_in, env0]
  refine lcOf_map lot nD (fun t => isFree R L lot t) nD (by omega) (by simp [Slot.ads]) (by simp) (fun t ht Y N hY hN => ?_) fun l => ?_
  · simp [wipeD, p_stuck_part]
    refine ⟨R, L, rfl, hR, hlot, hlot.lt t ht, ?_⟩
    rw [stuck_non]
    cases e : isFree R L lot t <;> simp
    · exact hN _ (by simp [wipeD]) e
    · exact hY _ (by simp [wipeD]) e
  · simpa [lotD, freeIn] using h
/-! beneath -/
def p_with_beneath : DRn := fun ds k => ∃ R f x, ds = [forestD f, nD x] ∧ Good R f ∧ R.length ≤ 24 ∧ x < R.length ∧ k (lotD (beneath f x))
theorem beneath_ok {R : List Nat} {f : Forest} (g : Good R f) {x : Nat} : LotOk R.length (beneath f x) := ⟨fun y hy => by
  have := (List.mem_filter.mp hy).1
  rw [g.len] at this
  simpa using this, List.Pairwise.filter _ (List.pairwise_lt_range)⟩
end DL
end
section
set_option Elab.async false
set_option maxRecDepth 100000
set_option linter.all false
namespace DL
open PySem L2 L2.DC L2.GD MM
/-- a sorted list of the same things -/
theorem sorted_eq : ∀ {a b : List Nat}, a.Pairwise (· < ·) → b.Pairwise (· ≤ ·) → b.Perm a → b = a
  | a, b, ha, hb, hp => by
    refine List.Perm.eq_of_pairwise (le := (· ≤ ·)) (fun x y _ _ h1 h2 => Nat.le_antisymm h1 h2) hb (ha.imp fun h => Nat.le_of_lt h) hp
theorem ints_sorted {ns' : List Int} {l : List Nat} (h1 : ns'.Perm (l.map fun n : Nat => (n : Int))) (h2 : ns'.Pairwise (· ≤ ·)) {m : List Nat} (hm : m.Pairwise (· < ·)) (hp : l.Perm m) : ns'.map .int = m.map nD := by
  have h3 : ns' = (ns'.map Int.toNat).map fun n => ((n : Nat) : Int) := by
    rw [List.map_map]
    conv => lhs; rw [← List.map_id ns']
    apply List.map_congr_left
    intro i hi
    obtain ⟨n, _, rfl⟩ := List.mem_map.mp (h1.subset hi)
    simp
  have h4 : (ns'.map Int.toNat).Perm m := by
    have := h1.map Int.toNat
    rw [List.map_map] at this
    have e : l.map (Int.toNat ∘ fun n => ((n : Nat) : Int)) = l := by
      conv => rhs; rw [← List.map_id l]
      apply List.map_congr_left
      intro i _
      simp
    rw [e] at this
    exact this.trans hp
  have h5 : (ns'.map Int.toNat).Pairwise (· ≤ ·) := h2.map _ fun a b h => by omega
  rw [h3, sorted_eq hm h5 h4, List.map_map]
  rfl
theorem beneath_perm {R : List Nat} {f : Forest} (g : Good R f) {x : Nat} (hx : x < R.length) : (insideL f x ++ [x]).Perm (beneath f x) := by
  have nd1 : (insideL f x ++ [x]).Nodup := List.nodup_append.mpr ⟨List.Pairwise.filter _ List.nodup_range, by simp, fun a ha b hb e => by
    have : b = x := by simpa using hb
    subst this
    subst e
    have := (List.mem_filter.mp ha).2
    exact g.notArnd a (by simpa using this)⟩
  have nd2 : (beneath f x).Nodup := List.Pairwise.filter _ List.nodup_range
  refine (List.perm_ext_iff_of_nodup nd1 nd2).mpr fun a => ?_
  simp [insideL, beneath]
  constructor
  · rintro (⟨h1, h2⟩ | rfl)
    · exact ⟨h1, .inr h2⟩
    · exact ⟨by rw [g.len]; exact hx, .inl rfl⟩
  · rintro ⟨h1, rfl | h2⟩
    · exact .inr rfl
    · exact .inl ⟨h1, h2⟩
theorem nDs_int (l : List Nat) : l.map nD = (l.map fun n : Nat => (n : Int)).map .int := by rw [List.map_map]; rfl
def SortOf (d : PyData) (k : PyData → Prop) : Prop := ∃ ns : List Int, items d = some (ns.map .int) ∧ ∀ ns' : List Int, ns'.Perm ns → ns'.Pairwise (· ≤ ·) → k (.list (ns'.map .int))
@[simp] theorem dSorted_eq {d : PyData} {k : PyData → Prop} : dSorted [d] k = SortOf d k := propext ⟨fun ⟨d', ns, e, h1, h2⟩ => by cases e; exact ⟨ns, h1, h2⟩, fun ⟨ns, h1, h2⟩ => ⟨d, ns, rfl, h1, h2⟩⟩
theorem sortOf_n {l m : List Nat} {d : PyData} {k : PyData → Prop} (hd : items d = some (l.map nD)) (hm : m.Pairwise (· < ·)) (hp : l.Perm m) (h : k (.list (m.map nD))) : SortOf d k := by
  refine ⟨l.map fun n : Nat => (n : Int), by rw [hd, nDs_int], fun ns' h1 h2 => ?_⟩
  rw [ints_sorted h1 h2 hm hp]
  exact h
theorem r_with_beneath : ∀ ds kk, p_with_beneath ds kk → d_with_beneath p_within (fin kk) (env0 2 (ds.map .dat)) := by
  rintro ds kk ⟨R, f, x, rfl, g, hl, hx, h⟩
  have h1 := List.length_filter_le (fun z => decide (x ∈ arnd f z)) (List.range f.length)
  rw [List.length_range] at h1
  have h2 := g.len
  simp [d_with_beneath, env0, p_within]
  refine ⟨R, g, hl, hx, by unfold insideL; omega, sortOf_n (l := insideL f x ++ [x]) (m := beneath f x) (by simp) (beneath_ok g).nd (beneath_perm g hx) ?_⟩
  simpa [lotD] using h
@[simp] theorem okLs1 {l : List (List Nat)} : okD 60 (.tuple (l.map lotD)) = True := eq_true (ok_map (k := 59) (enc := lotD) (fun _ => ok_lot (k := 58)) l)
theorem eqv_one {a b : List (List Nat)} : PyData.eqv (lotsD a) (.tuple (b.map lotD)) = decide (a = b) := eqv_lots a b
@[simp] theorem eqv_one' {a : List (List Nat)} {b : List Nat} : PyData.eqv (lotsD a) (.tuple [lotD b]) = decide (a = [b]) := eqv_lots a [b]
@[simp] theorem okOne {b : List Nat} : okD 60 (.tuple [lotD b]) = True := eq_true (ok_map (k := 59) (enc := lotD) (fun _ => ok_lot (k := 58)) [b])
def p_hangs_whole : DRn := fun ds k => ∃ R L f, ds = [worldD R L, forestD f] ∧ ROk R ∧ Least R L f ∧ k (.bool true)
def AllOf (d : PyData) (k : PyData → Prop) : Prop := ∃ bs : List Bool, d = .list (bs.map .bool) ∧ k (.bool (bs.all id))
theorem dAll_eq {d : PyData} {k : PyData → Prop} : dAll [d] k = AllOf d k := propext ⟨fun ⟨bs, e, h⟩ => by cases e; exact ⟨bs, rfl, h⟩, fun ⟨bs, e, h⟩ => ⟨bs, by rw [e], h⟩⟩
theorem r_hangs_whole : ∀ ds kk, p_hangs_whole ds kk → d_hangs_whole p_with_beneath p_parts_in (fin kk) (env0 5 (ds.map .dat)) := by
  rintro ds kk ⟨R, L, f, rfl, hR, hL, h⟩
  have g := hL.good
  have hf := g.len
  have hl := hR.len
  simp [d_hangs_whole, env0]
  refine ⟨by omega, ?_⟩
  rw [intsD_eq]
  refine lcOf_all _ nD (fun x => lotD (beneath f x)) (by simp; omega) (by simp [Slot.ads]) (by simp) (fun x hx Y hY => ?_) fun l => ?_
  · simp [wipeD, p_with_beneath]
    exact ⟨R, g, hl, by rw [← hf]; simpa using hx, hY _ (by simp [wipeD])⟩
  · simp
    have e : (List.range f.length).map (fun x => lotD (beneath f x)) = ((List.range f.length).map (beneath f)).map lotD := by rw [List.map_map]; rfl
    rw [e]
    refine lcOf_all ((List.range f.length).map (beneath f)) lotD (fun _ => .bool true) (by simp; omega) (by simp [Slot.ads]) (by simp) (fun b hb Y hY => ?_) fun l => ?_
    · obtain ⟨x, hx, rfl⟩ := List.mem_map.mp hb
      have hx : x < R.length := by rw [← hf]; simpa using hx
      simp [wipeD, p_parts_in]
      refine ⟨R, L, rfl, hR, beneath_ok g, ?_⟩
      rw [decide_eq_true (hL.whole x hx)]
      exact hY _ (by simp [wipeD])
    · simp [dAll_eq]
      refine ⟨List.replicate f.length true, ?_, ?_⟩
      · simp [Function.comp_def, List.map_const']
      · have : (List.replicate f.length true).all id = true := by simp
        rw [this]
        exact h
def p_stands_let : DRn := fun ds k => ∃ R L f, ds = [worldD R L, forestD f] ∧ ROk R ∧ Least R L f ∧ k (.bool true)
def L2Of (xs : List PyData) (v : Nat) (ι1 : DTA) (v1 : Nat) (ε : DTE) (ρ1 : Env) (k : Slot → Env → Prop) : Prop := ∃ (ys : PyData → List PyData) (g : PyData → PyData → PyData),
  xs.length ≤ 1000 ∧ (∀ x ∈ xs, (ys x).length ≤ 1000) ∧ (∀ i ∈ [v, v1], (ρ1.getD i .no).ads = [] ) ∧
  (∀ x ∈ xs, ι1 ((wipeD ρ1 [v, v1]).set v (.dat x)) fun ys' ρ3 => ys' = ys x ∧ ρ3 = (wipeD ρ1 [v, v1]).set v (.dat x)) ∧
  (∀ x ∈ xs, ∀ y ∈ ys x, ε ((wipeD ((wipeD ρ1 [v, v1]).set v (.dat x)) [v1]).set v1 (.dat y)) fun z ρ5 => z = g x y ∧ ρ5 = (wipeD ((wipeD ρ1 [v, v1]).set v (.dat x)) [v1]).set v1 (.dat y)) ∧
  ∀ l, k (.lst l (xs.flatMap fun x => (ys x).map (g x))) ρ1
@[simp] theorem dL2_eq {ι : DTA} {v : Nat} {ι1 : DTA} {v1 : Nat} {ε : DTE} : dL2 ι v ι1 v1 ε = fun ρ k => ι ρ fun xs ρ1 => L2Of xs v ι1 v1 ε ρ1 k := rfl
theorem intsD_from {lo n : Nat} : intsD (lo : Int) n = (List.range n).map fun i => nD (lo + i) := by
  unfold intsD nD
  apply List.map_congr_left
  intro i _
  simp
theorem r_stands_let : ∀ ds kk, p_stands_let ds kk → d_stands_let p_standing_in (fin kk) (env0 6 (ds.map .dat)) := by
  rintro ds kk ⟨R, L, f, rfl, hR, hL, h⟩
  have g := hL.good
  have hf := g.len
  have hl := hR.len
  simp [d_stands_let, env0]
  refine ⟨by omega, fun x => (List.range (f.length - (nOf x + 1))).map fun i => nD (nOf x + 1 + i), fun _ _ => .bool true, by simp [intsD]; omega, fun x hx => by simp; omega, by simp [Slot.ads], ?_, ?_, fun l => ?_⟩
  · intro x hx
    rw [intsD_eq] at hx
    obtain ⟨i, hi, rfl⟩ := List.mem_map.mp hx
    have hi : i < f.length := by simpa using hi
    simp [wipeD, nOf_nD]
    refine ⟨by omega, by omega, by omega, ?_⟩
    have e1 : ((i : Int) + 1) = ((i + 1 : Nat) : Int) := by omega
    have e2 : (((f.length : Nat) : Int) - ((i + 1 : Nat) : Int)).toNat = f.length - (i + 1) := by omega
    rw [e1, e2, intsD_from]
  · intro x hx y hy
    rw [intsD_eq] at hx
    obtain ⟨i, hi, rfl⟩ := List.mem_map.mp hx
    have hi : i < f.length := by simpa using hi
    obtain ⟨j, hj, rfl⟩ := List.mem_map.mp hy
    rw [nOf_nD] at hj ⊢
    have hj : j < f.length - (i + 1) := by simpa using hj
    simp [wipeD, p_standing_in]
    refine ⟨R, g, hl, by omega, by omega, ?_⟩
    have hlk := look_tab (enc := letsD) (L := L) (n := R.length) (a := i) (b := i + 1 + j) (by omega) (by omega) (by omega)
    refine ⟨_, rfl, keyOf (i, i + 1 + j), rfl, by simp [keyOf], _, hlk, ?_⟩
    simp
    exact hL.lets i (i + 1 + j) (by omega) (by omega) (by omega)
  · simp [dAll_eq]
    refine ⟨((intsD 0 f.length).flatMap fun x => (List.range (f.length - (nOf x + 1))).map fun _ => true), ?_, ?_⟩
    · simp [List.map_flatMap, Function.comp_def]
    · have : (((intsD 0 f.length).flatMap fun x => (List.range (f.length - (nOf x + 1))).map fun _ => true)).all id = true := by
        rw [List.all_eq_true]
        intro b hb
        obtain ⟨x, _, hb⟩ := List.mem_flatMap.mp hb
        obtain ⟨_, _, rfl⟩ := List.mem_map.mp hb
        rfl
      rw [this]
      exact h
def p_is_least : DRn := fun ds k => ∃ R L f, ds = [worldD R L, forestD f] ∧ ROk R ∧ Least R L f ∧ k (.bool true)
theorem r_is_least : ∀ ds kk, p_is_least ds kk → d_is_least p_stands_let p_hangs_whole (fin kk) (env0 2 (ds.map .dat)) := by
  rintro ds kk ⟨R, L, f, rfl, hR, hL, h⟩
  simp [d_is_least, env0, p_stands_let, p_hangs_whole]
  exact ⟨R, L, rfl, hR, hL, R, L, rfl, hR, hL, h⟩
def p_least_right : DRn := fun ds k => ∃ R ss f, ds = [bookD R ss, forestD f] ∧ BkOk R ss ∧ Least R (tabOf R ss) f ∧ (∀ s ∈ ss, stand f s.1 s.2.1 ∈ s.2.2) ∧ k (.bool true)
theorem r_least_right : ∀ ds kk, p_least_right ds kk → d_least_right p_keeps p_hangs_whole p_world_of (fin kk) (env0 2 (ds.map .dat)) := by
  rintro ds kk ⟨R, ss, f, rfl, hB, hL, hk, h⟩
  simp [d_least_right, env0, p_keeps, p_hangs_whole, p_world_of, hB, hL.good, -Prod.exists, -Prod.forall]
  exact ⟨hk, R, tabOf R ss, rfl, hB.rooms, hL, h⟩
/-! deeds -/
def p_part_with : DRn := fun ds k => ∃ R L lot x, ds = [worldD R L, lotD lot, nD x] ∧ ROk R ∧ LotOk R.length lot ∧ x ∈ lot ∧ k (lotD (partW L lot x))
theorem mem_parts {L : Tab} : ∀ k (lot : List Nat), lot.length ≤ k → ∀ x ∈ lot, ∃ p ∈ partsF L k lot, x ∈ p
  | 0, l, hl, x, hx => by
    cases l with
    | nil => cases hx
    | cons a l => simp at hl
  | k + 1, [], _, x, hx => by cases hx
  | k + 1, a :: l, hl, x, hx => by
    by_cases h : x ∈ partOf L (a :: l) a
    · exact ⟨_, List.mem_cons_self, h⟩
    · have h1 := rest_lt (L := L) (a := a) (l := l)
      have h2 : x ∈ MM.rest L (a :: l) a := List.mem_filter.mpr ⟨hx, by simpa using h⟩
      obtain ⟨p, hp, hxp⟩ := mem_parts k _ (by simp only [List.length_cons] at hl h1; omega) x h2
      exact ⟨p, List.mem_cons_of_mem _ hp, hxp⟩
theorem part_of_mem {L : Tab} {lot : List Nat} {x : Nat} (hx : x ∈ lot) : ∃ p r, (parts L lot).filter (fun p => decide (x ∈ p)) = p :: r ∧ x ∈ p ∧ p ∈ parts L lot := by
  obtain ⟨p, hp, hxp⟩ := mem_parts (L := L) lot.length lot (Nat.le_refl _) x hx
  cases e : (parts L lot).filter fun p => decide (x ∈ p) with
  | nil =>
    have := List.filter_eq_nil_iff.mp e p hp
    simp [hxp] at this
  | cons q r =>
    have hq : q ∈ (parts L lot).filter fun p => decide (x ∈ p) := by rw [e]; exact List.mem_cons_self
    obtain ⟨h1, h2⟩ := List.mem_filter.mp hq
    exact ⟨q, r, rfl, by simpa using h2, h1⟩
theorem r_part_with : ∀ ds kk, p_part_with ds kk → d_part_with p_parts_in (fin kk) (env0 4 (ds.map .dat)) := by
  rintro ds kk ⟨R, L, lot, x, rfl, hR, hlot, hx, h⟩
  have hl := hR.len
  have hll := hlot.len
  have hpl := parts_len (L := L) (lot := lot)
  simp [d_part_with, env0, p_parts_in]
  refine ⟨R, L, rfl, hR, hlot, lcOf_map _ lotD (fun p => decide (x ∈ p)) lotD (by omega) (by simp [Slot.ads]) (by simp) (fun p hp Y N hY hN => ?_) fun l => ?_⟩
  · simp [wipeD]
    split
    · rename_i e
      exact hY _ (by simp [wipeD]) (by simpa using e)
    · rename_i e
      exact hN _ (by simp [wipeD]) (by simpa using e)
  · obtain ⟨p, r, e, _, _⟩ := part_of_mem (L := L) hx
    unfold partW at h
    rw [e] at h ⊢
    simpa using h
end DL
end
section
set_option Elab.async false
set_option maxRecDepth 100000
set_option linter.all false
namespace DL
open PySem L2 L2.DC L2.GD MM
/-- x lies on h in room r -/
abbrev On (f : Forest) (x h r : Nat) : Prop := up f x = some (h, r)
theorem On.get {f : Forest} {x h r : Nat} (o : On f x h r) : f[x]? = some (some (h, r)) := by
  unfold On up at o
  rw [List.getD_eq_getElem?_getD] at o
  cases e : f[x]? with
  | none => rw [e] at o; cases o
  | some p => rw [e] at o; rw [show p = some (h, r) from o]
theorem mem_beneath {R : List Nat} {f : Forest} (g : Good R f) {x y : Nat} : y ∈ beneath f x ↔ y < R.length ∧ (y = x ∨ x ∈ arnd f y) := by
  simp [beneath, g.len]
theorem on_beneath {R : List Nat} {f : Forest} (g : Good R f) {x h r : Nat} (o : On f x h r) : x ∈ beneath f h ∧ h ∈ beneath f h ∧ h < R.length ∧ x < R.length ∧ h ≠ x := by
  have h1 := g.pl x h r o
  have h2 := g.upLt o
  refine ⟨(mem_beneath g).mpr ⟨h2, .inr ?_⟩, (mem_beneath g).mpr ⟨h1.1, .inl rfl⟩, h1.1, h2, h1.2.1⟩
  unfold arnd
  rw [g.climb_some o]
  simp
/-- the part of the holder once x is gone -/
noncomputable def hPart (L : Tab) (f : Forest) (x h : Nat) : List Nat := partW L (less (beneath f h) x) h
theorem hPart_ok {R : List Nat} {L : Tab} {f : Forest} (g : Good R f) {x h r : Nat} (o : On f x h r) : LotOk R.length (hPart L f x h) ∧ (∀ c ∈ hPart L f x h, c < R.length ∧ c ≠ x) ∧ h ∈ hPart L f x h := by
  obtain ⟨_, hb, hl, hx, hn⟩ := on_beneath g o
  have hm : h ∈ less (beneath f h) x := List.mem_filter.mpr ⟨hb, by simpa using hn⟩
  obtain ⟨p, q, e, hp1, hp2⟩ := part_of_mem (L := L) hm
  have hps := parts_sub hp2
  have e2 : hPart L f x h = p := by
    unfold hPart partW
    rw [e]
    rfl
  rw [e2]
  have lo := ((beneath_ok g).less x).sub hps
  refine ⟨lo, fun c hc => ⟨lo.lt c hc, ?_⟩, hp1⟩
  have := (List.mem_filter.mp (hps.subset hc)).2
  simpa using this
def p_part_of_holder : DRn := fun ds k => ∃ R L f x h r, ds = [worldD R L, forestD f, nD x] ∧ ROk R ∧ Good R f ∧ On f x h r ∧ k (lotD (hPart L f x h))
theorem r_part_of_holder : ∀ ds kk, p_part_of_holder ds kk → d_part_of_holder p_part_with p_without p_with_beneath (fin kk) (env0 4 (ds.map .dat)) := by
  rintro ds kk ⟨R, L, f, x, hh, r, rfl, hR, g, o, h⟩
  have hl := hR.len
  obtain ⟨b1, b2, b3, b4, b5⟩ := on_beneath g o
  have bl := (beneath_ok g (x := hh)).len
  simp [d_part_of_holder, env0]
  refine ⟨placeD (some (hh, r)), ⟨_, o.get, rfl⟩, [nD hh, nD r], by simp, nD hh, by simp, ?_⟩
  simp [p_with_beneath, p_without]
  refine ⟨R, g, hl, b3, by omega, ?_⟩
  simp [p_part_with]
  exact ⟨R, L, rfl, hR, (beneath_ok g).less x, List.mem_filter.mpr ⟨b2, by simpa using b5⟩, h⟩
def p_is_free_there : DRn := fun ds k => ∃ R L f x h r, ds = [worldD R L, forestD f, nD x] ∧ ROk R ∧ Good R f ∧ On f x h r ∧ k (.bool (isFree R L (beneath f h) x))
theorem r_is_free_there : ∀ ds kk, p_is_free_there ds kk → d_is_free_there p_free_in p_with_beneath (fin kk) (env0 3 (ds.map .dat)) := by
  rintro ds kk ⟨R, L, f, x, hh, r, rfl, hR, g, o, h⟩
  have hl := hR.len
  obtain ⟨b1, b2, b3, b4, b5⟩ := on_beneath g o
  simp [d_is_free_there, env0]
  refine ⟨placeD (some (hh, r)), ⟨_, o.get, rfl⟩, [nD hh, nD r], by simp, nD hh, by simp, ?_⟩
  simp [p_with_beneath, p_free_in]
  refine ⟨R, g, hl, b3, R, L, rfl, hR, beneath_ok g, ?_⟩
  have e : (x ∈ freeIn R L (beneath f hh)) = (isFree R L (beneath f hh) x = true) := propext ⟨fun h => (List.mem_filter.mp h).2, fun h => List.mem_filter.mpr ⟨b1, h⟩⟩
  simp [e]
  exact h
def p_turn_rooms : DRn := fun ds k => ∃ R L f x h r, ds = [worldD R L, forestD f, nD x] ∧ ROk R ∧ Good R f ∧ On f x h r ∧ k (lotD (over R L x (hPart L f x h)))
theorem r_turn_rooms : ∀ ds kk, p_turn_rooms ds kk → d_turn_rooms p_over_in p_part_of_holder (fin kk) (env0 3 (ds.map .dat)) := by
  rintro ds kk ⟨R, L, f, x, hh, r, rfl, hR, g, o, h⟩
  have hl := hR.len
  obtain ⟨q1, q2, q3⟩ := hPart_ok (L := L) g o
  simp [d_turn_rooms, env0, p_part_of_holder]
  refine ⟨R, L, rfl, hR, g, hh, ⟨r, o⟩, ?_⟩
  simp [p_over_in]
  exact ⟨R, L, rfl, hR, g.upLt o, q2, by have := q1.len; omega, h⟩
def p_shift_rooms : DRn := fun ds k => ∃ R L f x h r, ds = [worldD R L, forestD f, nD x] ∧ ROk R ∧ Good R f ∧ On f x h r ∧ k (lotD ((over R L h (beneath f x)).filter fun j => decide (j ≠ r)))
theorem r_shift_rooms : ∀ ds kk, p_shift_rooms ds kk → d_shift_rooms p_over_in p_with_beneath (fin kk) (env0 6 (ds.map .dat)) := by
  rintro ds kk ⟨R, L, f, x, hh, r, rfl, hR, g, o, h⟩
  have hl := hR.len
  obtain ⟨b1, b2, b3, b4, b5⟩ := on_beneath g o
  simp [d_shift_rooms, env0]
  refine ⟨placeD (some (hh, r)), ⟨_, o.get, rfl⟩, ?_⟩
  simp [p_with_beneath]
  refine ⟨R, g, hl, b4, ?_⟩
  simp [p_over_in]
  have hb : ∀ c ∈ beneath f x, c < R.length ∧ c ≠ hh := fun c hc => by
    obtain ⟨c1, c2⟩ := (mem_beneath g).mp hc
    refine ⟨c1, fun e => ?_⟩
    subst e
    rcases c2 with rfl | c2
    · exact b5 rfl
    · -- x outward of its own holder
      have h1 := g.notArnd x
      have h2 : (x ∈ arnd f c) := c2
      have h3 : arnd f x = c :: arnd f c := by
        unfold arnd
        rw [g.climb_some o]
        rfl
      rw [h3] at h1
      exact h1 (List.mem_cons_of_mem _ h2)
  have h5 := over_len hR (L := L) b3 (part := beneath f x)
  refine ⟨R, L, rfl, hR, b3, hb, by have := (beneath_ok g (x := x)).len; omega, lcOf_map _ nD (fun j => decide (j ≠ r)) nD (by omega) (by simp [Slot.ads]) (by simp) (fun j hj Y N hY hN => ?_) fun l => ?_⟩
  · by_cases e : j = r <;> simp [wipeD, e]
    · exact hN _ (by simp [wipeD]) (by simpa)
    · exact hY _ (by simp [wipeD]) (by simpa)
  · simpa [lotD] using h
/-- those that hang over with a turn -/
noncomputable def movedOf (L : Tab) (f : Forest) (x h : Nat) : List Nat := (List.range f.length).filter fun o => lies f x o && decide (o ∈ hPart L f x h)
theorem hangs_turn {L : Tab} {f : Forest} {x j h r : Nat} (o : On f x h r) : hangsOf L f (true, x, j) = (x, up f h) :: (h, some (x, j)) :: (movedOf L f x h).map fun o => (o, some (h, r)) := by
  unfold hangsOf movedOf hPart
  simp only [o]
  rfl
theorem hangs_shift {L : Tab} {f : Forest} {x j h r : Nat} (o : On f x h r) : hangsOf L f (false, x, j) = [(x, some (h, j))] := by
  unfold hangsOf
  simp only [o]
  rfl
def p_turn_hangs : DRn := fun ds k => ∃ R L f x j h r, ds = [worldD R L, forestD f, nD x, nD j] ∧ ROk R ∧ Good R f ∧ On f x h r ∧ k (rowD (hangsOf L f (true, x, j)))
theorem enum_zip {f : Forest} : enumD (f.map placeD) = ((List.range f.length).map fun i => (i, up f i)).map hrD := by
  apply List.ext_getElem?
  intro i
  rw [enumD_get, List.getElem?_map, List.getElem?_map, List.getElem?_map]
  by_cases h : i < f.length
  · rw [getP h, List.getElem?_range h]
    rfl
  · rw [List.getElem?_eq_none (by omega), List.getElem?_eq_none (by simpa using h)]
    rfl
theorem r_turn_hangs : ∀ ds kk, p_turn_hangs ds kk → d_turn_hangs p_part_of_holder (fin kk) (env0 10 (ds.map .dat)) := by
  rintro ds kk ⟨R, L, f, x, j, hh, r, rfl, hR, g, o, h⟩
  have hl := hR.len
  have hf := g.len
  obtain ⟨b1, b2, b3, b4, b5⟩ := on_beneath g o
  obtain ⟨q1, q2, q3⟩ := hPart_ok (L := L) g o
  simp [d_turn_hangs, env0]
  refine ⟨placeD (some (hh, r)), ⟨_, o.get, rfl⟩, ?_⟩
  simp [p_part_of_holder]
  refine ⟨R, L, rfl, hR, g, hh, ⟨r, o⟩, ?_⟩
  rw [enum_zip]
  refine lcOf_map _ hrD (fun q : Nat × Plc => (match q.2 with | some p => decide (p.1 = x) | none => false) && decide (q.1 ∈ hPart L f x hh)) (fun q => nD q.1) (by simp; omega) (by simp [Slot.ads]) (by simp) (fun q hq Y N hY hN => ?_) fun l => ?_
  · obtain ⟨a, p⟩ := q
    cases p with
    | none =>
      simp [wipeD]
      exact hN _ (by simp [wipeD]) (by simp)
    | some p =>
      obtain ⟨b, c⟩ := p
      by_cases e1 : b = x <;> by_cases e2 : a ∈ hPart L f x hh <;> simp [wipeD, e1, e2]
      · exact hY _ (by simp [wipeD]) (by simp [e1, e2])
      · exact hN _ (by simp [wipeD]) (by simp [e1, e2])
      · exact hN _ (by simp [wipeD]) (by simp [e1, e2])
      · exact hN _ (by simp [wipeD]) (by simp [e1, e2])
  · have em : ((((List.range f.length).map fun i => (i, up f i)).filter fun q : Nat × Plc => (match q.2 with | some p => decide (p.1 = x) | none => false) && decide (q.1 ∈ hPart L f x hh)).map fun q => nD q.1) = (movedOf L f x hh).map nD := by
      rw [List.filter_map, List.map_map]
      rfl
    rw [em]
    have hml : (movedOf L f x hh).length ≤ 24 := by
      have := List.length_filter_le (fun o => lies f x o && decide (o ∈ hPart L f x hh)) (List.range f.length)
      rw [List.length_range] at this
      unfold movedOf
      omega
    simp
    refine ⟨placeD (up f hh), ⟨up f hh, getP (by omega), rfl⟩, lcOf_all _ nD (fun o => hrD (o, some (hh, r))) (by omega) (by simp [Slot.ads]) (by simp) (fun q hq Y hY => ?_) fun l2 => ?_⟩
    · simp [wipeD]
      exact hY _ (by simp [wipeD])
    · simp
      refine ⟨by omega, ?_⟩
      rw [hangs_turn o] at h
      simpa [rowD, hrD, placeD, Function.comp_def] using h
def p_deed_hangs : DRn := fun ds k => ∃ R L f d h r, ds = [worldD R L, forestD f, deedD d] ∧ ROk R ∧ Good R f ∧ On f d.2.1 h r ∧ k (rowD (hangsOf L f d))
theorem r_deed_hangs : ∀ ds kk, p_deed_hangs ds kk → d_deed_hangs p_turn_hangs (fin kk) (env0 6 (ds.map .dat)) := by
  rintro ds kk ⟨R, L, f, ⟨b, x, j⟩, hh, r, rfl, hR, g, o, h⟩
  cases b with
  | true =>
    simp [d_deed_hangs, env0, dwD, p_turn_hangs]
    exact ⟨R, L, rfl, hR, g, ⟨hh, r, o⟩, h⟩
  | false =>
    simp [d_deed_hangs, env0, dwD, tw_ne.2]
    rw [hangs_shift o] at h
    exact ⟨placeD (some (hh, r)), ⟨_, o.get, rfl⟩, [nD hh, nD r], rfl, nD hh, rfl, h⟩
end DL
end
section
set_option Elab.async false
set_option maxRecDepth 100000
set_option linter.all false
namespace DL
open PySem L2 L2.DC L2.GD MM
theorem putAll_len {f : Forest} {row : Row} : (putAll f row).length = f.length := by
  unfold putAll
  induction row generalizing f with
  | nil => rfl
  | cons p r ih => rw [List.foldl_cons, ih, List.length_set]
def p_all_put : DRn := fun ds k => ∃ f row, ds = [forestD f, rowD row] ∧ f.length ≤ 24 ∧ (∀ q ∈ row, q.1 < f.length) ∧ k (forestD (putAll f row))
theorem r_all_put : ∀ ds kk, p_all_put ds kk → d_all_put p_put (fin kk) (env0 4 (ds.map .dat)) := by
  rintro ds kk ⟨f, row, rfl, hl, hr, h⟩
  simp [d_all_put, env0]
  obtain ⟨W, hW⟩ := opq fun i ρ => ∃ s1 s2, ρ = [.dat (forestD (putAll f (row.take i))), .dat (rowD row), s1, s2]
  refine forOf_map row hrD W ((hW _ _).mpr ⟨_, _, rfl⟩) ?_ ?_
  · intro i q ρ' hq w
    obtain ⟨s1, s2, rfl⟩ := (hW _ _).mp w
    have hlen := putAll_len (f := f) (row := row.take i)
    have h1 := hr q (List.mem_of_getElem? hq)
    simp [p_put, hlen, h1, hl, -Prod.exists]
    refine (hW _ _).mpr ⟨.dat (nD q.1), .dat (placeD q.2), ?_⟩
    rw [List.take_add_one, hq]
    simp [putAll]
  · intro ρ' w
    obtain ⟨s1, s2, rfl⟩ := (hW _ _).mp w
    rw [List.take_of_length_le (Nat.le_refl _)]
    simpa using h
theorem hangs_lt {R : List Nat} {L : Tab} {f : Forest} (g : Good R f) {d : Deed} {h r : Nat} (o : On f d.2.1 h r) : ∀ q ∈ hangsOf L f d, q.1 < f.length := by
  obtain ⟨b, x, j⟩ := d
  obtain ⟨b1, b2, b3, b4, b5⟩ := on_beneath g o
  have hf := g.len
  intro q hq
  cases b with
  | true =>
    rw [hangs_turn o] at hq
    rcases List.mem_cons.mp hq with rfl | hq
    · rw [hf]; exact b4
    · rcases List.mem_cons.mp hq with rfl | hq
      · rw [hf]; exact b3
      · obtain ⟨z, hz, rfl⟩ := List.mem_map.mp hq
        have := (List.mem_filter.mp hz).1
        simpa using this
  | false =>
    rw [hangs_shift o] at hq
    have : q = (x, some (h, j)) := by simpa using hq
    subst this
    rw [hf]
    exact b4
def p_behind : DRn := fun ds k => ∃ R L f d h r, ds = [worldD R L, forestD f, deedD d] ∧ ROk R ∧ Good R f ∧ On f d.2.1 h r ∧ k (forestD (behind L f d))
theorem r_behind : ∀ ds kk, p_behind ds kk → d_behind p_all_put p_deed_hangs (fin kk) (env0 3 (ds.map .dat)) := by
  rintro ds kk ⟨R, L, f, d, hh, r, rfl, hR, g, o, h⟩
  have hl := hR.len
  have hf := g.len
  simp [d_behind, env0, p_deed_hangs, -Prod.exists]
  refine ⟨R, L, rfl, hR, g, ⟨hh, r, o⟩, ?_⟩
  simp [p_all_put]
  exact ⟨by omega, fun a b hq => hangs_lt g o (a, b) hq, h⟩
@[simp] theorem any_dw {b : Bool} : AnyEq [.str "turn", .str "shift"] (dwD b) = true := by cases b <;> simp [AnyEq, dwD]
@[simp] theorem o59_dw : Ok59 [.str "turn", .str "shift"] = True := eq_true fun d hd => by
  simp at hd
  rcases hd with rfl | rfl
  · exact ok_str so4
  · exact ok_str so5
def p_is_deed : DRn := fun ds k => ∃ d, ds = [deedD d] ∧ k (.bool true)
theorem r_is_deed : ∀ ds kk, p_is_deed ds kk → d_is_deed p_is_whole (fin kk) (env0 1 (ds.map .dat)) := by
  rintro ds kk ⟨d, rfl, h⟩
  simp [d_is_deed, env0, p_is_whole]
  exact h
def p_want_granted : DRn := fun ds k => ∃ R L f d, ds = [worldD R L, forestD f, deedD d] ∧ ROk R ∧ Good R f ∧ granted R L f d = true ∧ k .none
theorem granted_on {R : List Nat} {L : Tab} {f : Forest} {d : Deed} (h : granted R L f d = true) : ∃ hh r, On f d.2.1 hh r := by
  unfold granted at h
  cases e : up f d.2.1 with
  | none => rw [e] at h; cases h
  | some p => exact ⟨p.1, p.2, e⟩
theorem granted_turn {R : List Nat} {L : Tab} {f : Forest} {x j h r : Nat} (o : On f x h r) : granted R L f (true, x, j) = (isFree R L (beneath f h) x && decide (j ∈ over R L x (hPart L f x h))) := by
  unfold granted hPart
  simp only [o]
  rfl
theorem granted_shift {R : List Nat} {L : Tab} {f : Forest} {x j h r : Nat} (o : On f x h r) : granted R L f (false, x, j) = (decide (j ∈ over R L h (beneath f x)) && decide (j ≠ r)) := by
  unfold granted
  simp only [o]
  rfl
theorem r_want_granted : ∀ ds kk, p_want_granted ds kk → d_want_granted p_is_deed p_is_thing p_shift_rooms p_is_free_there p_turn_rooms (fin kk) (env0 6 (ds.map .dat)) := by
  rintro ds kk ⟨R, L, f, ⟨b, x, j⟩, rfl, hR, g, hg, h⟩
  obtain ⟨hh, r, o⟩ := granted_on hg
  have o : On f x hh r := o
  obtain ⟨b1, b2, b3, b4, b5⟩ := on_beneath g o
  cases b with
  | true =>
    rw [granted_turn o] at hg
    simp at hg
    simp [d_want_granted, env0, p_is_deed, p_is_thing, dwD, tw_ne.1, -Prod.exists]
    refine ⟨b4, placeD (some (hh, r)), ⟨_, o.get, rfl⟩, ?_⟩
    simp [p_is_free_there, p_turn_rooms]
    refine ⟨R, L, rfl, hR, g, hh, ⟨r, o⟩, ?_⟩
    simp [hg.1]
    refine ⟨R, L, rfl, hR, g, hh, ⟨r, o⟩, ?_⟩
    simp [hg.2]
    exact h
  | false =>
    rw [granted_shift o] at hg
    simp at hg
    simp [d_want_granted, env0, p_is_deed, p_is_thing, dwD, tw_ne.2, -Prod.exists]
    refine ⟨b4, placeD (some (hh, r)), ⟨_, o.get, rfl⟩, ?_⟩
    simp [p_shift_rooms]
    refine ⟨R, L, rfl, hR, g, hh, r, o, ?_⟩
    simp [hg.1, hg.2]
    exact h
def p_hangs : DRn := fun ds k => ∃ R ss f d, ds = [bookD R ss, forestD f, deedD d] ∧ BkOk R ss ∧ Least R (tabOf R ss) f ∧ granted R (tabOf R ss) f d = true ∧ k (rowD (hangsOf (tabOf R ss) f d))
theorem r_hangs : ∀ ds kk, p_hangs ds kk → d_hangs p_made_book p_made_forest p_world_of p_is_least p_want_granted p_deed_hangs (fin kk) (env0 5 (ds.map .dat)) := by
  rintro ds kk ⟨R, ss, f, d, rfl, hB, hL, hg, h⟩
  obtain ⟨hh, r, o⟩ := granted_on hg
  simp [d_hangs, env0, p_made_book, p_made_forest, p_world_of, hB, hB.rooms, hL.good, -Prod.exists]
  simp [p_is_least]
  refine ⟨R, tabOf R ss, rfl, hB.rooms, hL, ?_⟩
  simp [p_want_granted, -Prod.exists]
  refine ⟨R, tabOf R ss, rfl, hB.rooms, hL.good, hg, ?_⟩
  simp [p_deed_hangs, -Prod.exists]
  exact ⟨R, tabOf R ss, rfl, hB.rooms, hL.good, ⟨hh, r, o⟩, h⟩
def p_after : DRn := fun ds k => ∃ R ss f d, ds = [bookD R ss, forestD f, deedD d] ∧ BkOk R ss ∧ Least R (tabOf R ss) f ∧ granted R (tabOf R ss) f d = true ∧ k (forestD (behind (tabOf R ss) f d))
theorem r_after : ∀ ds kk, p_after ds kk → d_after p_hangs p_all_put p_made_forest (fin kk) (env0 4 (ds.map .dat)) := by
  rintro ds kk ⟨R, ss, f, d, rfl, hB, hL, hg, h⟩
  obtain ⟨hh, r, o⟩ := granted_on hg
  have hf := hL.good.len
  have hl := hB.rooms.len
  simp [d_after, env0, p_hangs, hB, hL, hg, -Prod.exists]
  simp [p_made_forest]
  refine ⟨hB.rooms, hL.good, ?_⟩
  simp [p_all_put]
  exact ⟨by omega, fun a b hq => hangs_lt hL.good o (a, b) hq, h⟩
def outerL (f : Forest) (part : List Nat) : List Nat := part.filter fun x => match up f x with | none => true | some p => decide (p.1 ∉ part)
def outer (f : Forest) (part : List Nat) : Nat := (outerL f part).headD 0
def p_outermost : DRn := fun ds k => ∃ f part, ds = [forestD f, lotD part] ∧ part.length ≤ 24 ∧ (∀ x ∈ part, x < f.length) ∧ outerL f part ≠ [] ∧ k (nD (outer f part))
theorem r_outermost : ∀ ds kk, p_outermost ds kk → d_outermost (fin kk) (env0 3 (ds.map .dat)) := by
  rintro ds kk ⟨f, part, rfl, hl, hp, hne, h⟩
  simp [d_outermost, env0]
  refine lcOf_map part nD (fun x => match up f x with | none => true | some p => decide (p.1 ∉ part)) nD (by omega) (by simp [Slot.ads]) (by simp) (fun x hx Y N hY hN => ?_) fun l => ?_
  · have hxl := hp x hx
    simp [wipeD]
    refine ⟨placeD (up f x), ⟨_, getP hxl, rfl⟩, ?_⟩
    cases e : up f x with
    | none =>
      simp
      exact hY _ (by simp [wipeD]) (by simp [e])
    | some p =>
      simp
      refine ⟨placeD (some p), ⟨up f x, getP hxl, by rw [e]⟩, [nD p.1, nD p.2], rfl, nD p.1, rfl, ?_⟩
      by_cases e2 : p.1 ∈ part <;> simp [e2]
      · exact hN _ (by simp [wipeD]) (by simp [e, e2])
      · exact hY _ (by simp [wipeD]) (by simp [e, e2])
  · unfold outer outerL at h
    unfold outerL at hne
    cases e : part.filter (fun x => match up f x with | none => true | some p => decide (p.1 ∉ part)) with
    | nil => exact absurd e hne
    | cons a r =>
      rw [e] at h
      simpa using h
end DL
end
section
set_option Elab.async false
set_option maxRecDepth 100000
set_option linter.all false
namespace DL
open PySem L2 L2.DC L2.GD MM
/-! the law's own defs -/
abbrev fin1 (s : Slot) (kk : PyData → Slot → Prop) : DEnds := ends1 s kk
structure Wf (f : Forest) : Prop where
  lt : ∀ x h r, up f x = some (h, r) → h < f.length
theorem Good.wf {R : List Nat} {f : Forest} (g : Good R f) : Wf f := ⟨fun x h r e => by rw [g.len]; exact g.lt e⟩
def wayL (l : List (Nat × Nat)) : PyData := .list (l.map fun p => placeD (some p))
@[simp] theorem it_wa {l : List (Nat × Nat)} : items (wayL l) = some (l.map fun p => placeD (some p)) := rfl
@[simp] theorem tu_wa {l : List (Nat × Nat)} {xs : List PyData} : (wayL l = .list xs) = ((l.map fun p => placeD (some p)) = xs) := propext ⟨fun h => by injection h, fun h => by rw [← h]; rfl⟩
def p_Lclimb : DRn := fun ds k => ∃ f x, ds = [forestD f, nD x] ∧ Wf f ∧ f.length ≤ 24 ∧ x < f.length ∧ k (wayL (climb f x))
theorem climbF_step {f : Forest} : ∀ (k : Nat) (p : Plc) (i : Nat), True := fun _ _ _ => trivial
/-- where one stands after i steps outward -/
def afterSteps (f : Forest) : Nat → Plc → Plc
  | 0, p => p
  | _ + 1, none => none
  | i + 1, some p => afterSteps f i (up f p.1)
theorem climbF_add {f : Forest} : ∀ (i : Nat) (p : Plc), climbF f (i + 1) p = climbF f i p ++ (match afterSteps f i p with | none => [] | some q => [q])
  | 0, none => rfl
  | 0, some p => rfl
  | i + 1, none => rfl
  | i + 1, some p => by
    show p :: climbF f (i + 1) (up f p.1) = p :: climbF f i (up f p.1) ++ _
    rw [climbF_add i (up f p.1)]
    rfl
theorem afterSteps_add {f : Forest} : ∀ (i : Nat) (p : Plc), afterSteps f (i + 1) p = (match afterSteps f i p with | none => none | some q => up f q.1)
  | 0, none => rfl
  | 0, some p => rfl
  | i + 1, none => rfl
  | i + 1, some p => by
    show afterSteps f (i + 1) (up f p.1) = _
    rw [afterSteps_add i (up f p.1)]
    rfl
theorem climbF_done {f : Forest} : ∀ (i : Nat) (p : Plc), afterSteps f i p = none → ∀ k, i ≤ k → climbF f k p = climbF f i p
  | 0, none, _, k, _ => by cases k <;> rfl
  | 0, some p, h, _, _ => by cases h
  | i + 1, none, _, k, _ => by cases k <;> rfl
  | i + 1, some p, h, 0, hk => by omega
  | i + 1, some p, h, k + 1, hk => by
    show p :: climbF f k (up f p.1) = p :: climbF f i (up f p.1)
    rw [climbF_done i (up f p.1) h k (by omega)]
theorem Wf.after {f : Forest} (w : Wf f) : ∀ (i : Nat) (p : Plc), (∀ h r, p = some (h, r) → h < f.length) → ∀ h r, afterSteps f i p = some (h, r) → h < f.length
  | 0, p, hp, h, r, e => hp h r e
  | i + 1, none, hp, h, r, e => by cases e
  | i + 1, some q, hp, h, r, e => w.after i (up f q.1) (fun h r e => w.lt _ h r e) h r e
theorem r_Lclimb : ∀ ds kk, p_Lclimb ds kk → d__law_climb (fin kk) (env0 5 (ds.map .dat)) := by
  rintro ds kk ⟨f, x, rfl, w, hl, hx, h⟩
  simp [d__law_climb, env0, dPar, sOwn, sDat, sNil, Slot.pub, -Prod.exists]
  intro l
  refine ⟨placeD (up f x), ⟨_, getP hx, rfl⟩, by omega, ?_⟩
  have fin' : ∀ i, i ≤ f.length → (afterSteps f i (up f x) = none ∨ i = f.length) → climbF f i (up f x) = climb f x := fun i hi hh => by
    rcases hh with hh | rfl
    · exact (climbF_done i _ hh _ hi).symm
    · rfl
  obtain ⟨W, hW⟩ := opq fun i ρ => ∃ s, i ≤ f.length ∧ ρ = [.dat (forestD f), .dat (nD x), .lst l ((climbF f i (up f x)).map fun p => placeD (some p)), .dat (placeD (afterSteps f i (up f x))), s] ∧ (climbF f i (up f x)).length ≤ i
  refine forOf_ints (n := f.length) W ((hW _ _).mpr ⟨_, Nat.zero_le _, rfl, Nat.le_refl _⟩) ?_ ?_
  · intro i ρ' hi w'
    obtain ⟨s, hi', rfl, hle⟩ := (hW _ _).mp w'
    cases e : afterSteps f i (up f x) with
    | none =>
      simp
      rw [fin' i hi' (.inl e)]
      exact h
    | some q =>
      have hq := w.after i (up f x) (fun h r e => w.lt _ h r e) q.1 q.2 e
      simp
      refine ⟨by omega, placeD (up f q.1), ⟨_, getP hq, rfl⟩, (hW _ _).mpr ⟨.dat (nD i), hi, ?_, ?_⟩⟩
      · rw [climbF_add, e, afterSteps_add, e]
        simp
      · rw [climbF_add, e]
        simp
        exact hle
  · intro ρ' w'
    obtain ⟨s, hi', rfl, hle⟩ := (hW _ _).mp w'
    simp
    exact h
def p_Lstanding : DRn := fun ds k => ∃ f x y, ds = [forestD f, nD x, nD y] ∧ Wf f ∧ f.length ≤ 24 ∧ x < f.length ∧ y < f.length ∧ k (sdD (stand f x y))
theorem r_Lstanding : ∀ ds kk, p_Lstanding ds kk → d__law_standing p_Lclimb (fin kk) (env0 5 (ds.map .dat)) := by
  rintro ds kk ⟨f, x, y, rfl, w, hl, hx, hy, h⟩
  simp [d__law_standing, env0, p_Lclimb, -Prod.exists]
  refine ⟨w, hl, hx, ?_⟩
  unfold stand wayTo at h
  obtain ⟨W, hW⟩ := opq fun i ρ => ∃ s1 s2, ρ = [.dat (forestD f), .dat (nD x), .dat (nD y), s1, s2] ∧ ∀ p ∈ (climb f x).take i, decide (p.1 = y) = false
  refine forOf_map (climb f x) (fun p => placeD (some p)) W ((hW _ _).mpr ⟨_, _, rfl, by simp⟩) ?_ ?_
  · intro i q ρ' hq w'
    obtain ⟨s1, s2, rfl, hno⟩ := (hW _ _).mp w'
    by_cases e : q.1 = y
    · have hf := find_take (p := fun p : Nat × Nat => decide (p.1 = y)) hq hno (by simpa using e)
      rw [hf] at h
      simp [e]
      exact h
    · simp [e]
      refine (hW _ _).mpr ⟨_, _, rfl, fun p hp => ?_⟩
      rw [List.take_add_one, hq] at hp
      rcases List.mem_append.mp hp with hp | hp
      · exact hno p hp
      · have : p = q := by simpa using hp
        rw [this]
        simpa using e
  · intro ρ' w'
    obtain ⟨s1, s2, rfl, hno⟩ := (hW _ _).mp w'
    rw [List.take_of_length_le (Nat.le_refl _)] at hno
    have hf : (climb f x).find? (fun p => decide (p.1 = y)) = none := List.find?_eq_none.mpr fun p hp => by simpa using hno p hp
    rw [hf] at h
    simp [-Prod.exists]
    refine ⟨w, hl, hy, ?_⟩
    obtain ⟨V, hV⟩ := opq fun i ρ => ∃ s1 s2, ρ = [.dat (forestD f), .dat (nD x), .dat (nD y), s1, s2] ∧ ∀ p ∈ (climb f y).take i, decide (p.1 = x) = false
    refine forOf_map (climb f y) (fun p => placeD (some p)) V ((hV _ _).mpr ⟨_, _, rfl, by simp⟩) ?_ ?_
    · intro i q ρ' hq w'
      obtain ⟨s1, s2, rfl, hno⟩ := (hV _ _).mp w'
      by_cases e : q.1 = x
      · have hf := find_take (p := fun p : Nat × Nat => decide (p.1 = x)) hq hno (by simpa using e)
        rw [hf] at h
        simp [e]
        exact h
      · simp [e]
        refine (hV _ _).mpr ⟨_, _, rfl, fun p hp => ?_⟩
        rw [List.take_add_one, hq] at hp
        rcases List.mem_append.mp hp with hp | hp
        · exact hno p hp
        · have : p = q := by simpa using hp
          rw [this]
          simpa using e
    · intro ρ' w'
      obtain ⟨s1, s2, rfl, hno⟩ := (hV _ _).mp w'
      rw [List.take_of_length_le (Nat.le_refl _)] at hno
      have hf : (climb f y).find? (fun p => decide (p.1 = x)) = none := List.find?_eq_none.mpr fun p hp => by simpa using hno p hp
      rw [hf] at h
      simp
      exact h
end DL
end
section
set_option Elab.async false
set_option maxRecDepth 100000
set_option linter.all false
namespace DL
open PySem L2 L2.DC L2.GD MM
def p_Lturned : DRn := fun ds k => ∃ s, ds = [sdD s] ∧ k (sdD s.turn)
theorem r_Lturned : ∀ ds kk, p_Lturned ds kk → d__law_turned (fin kk) (env0 1 (ds.map .dat)) := by
  rintro ds kk ⟨s, rfl, h⟩
  cases s <;> simp [d__law_turned, env0, sdW, sdR, tabD, Sd.turn, sdD, st_ne.1, st_ne.2.1, st_ne.2.2, st_ne2.1, st_ne2.2.1, st_ne2.2.2] at h ⊢
  · exact h
  · exact h
  · exact h
def p_Levery : DRn := fun ds k => ∃ R x y, ds = [lotD R, nD x, nD y] ∧ ROk R ∧ x < R.length ∧ y < R.length ∧ k (letsL (allSd R x y))
theorem r_Levery : ∀ ds kk, p_Levery ds kk → d__law_every (fin kk) (env0 7 (ds.map .dat)) := by
  rintro ds kk ⟨R, x, y, rfl, hR, hx, hy, h⟩
  have h1 := rmost hR hx
  have h2 := rmost hR hy
  simp [d__law_every, env0, hx, hy]
  refine ⟨by omega, ?_⟩
  rw [intsD_eq]
  refine lcOf_all _ nD (fun i => sdD (.inn i)) (by simp; omega) (by simp [Slot.ads]) (by simp) (fun a ha Y hY => ?_) fun l => ?_
  · simp [wipeD]
    exact hY _ (by simp [wipeD])
  · simp [hx]
    refine ⟨by omega, ?_⟩
    rw [intsD_eq]
    refine lcOf_all _ nD (fun i => sdD (.aro i)) (by simp; omega) (by simp [Slot.ads]) (by simp) (fun a ha Y hY => ?_) fun l => ?_
    · simp [wipeD]
      exact hY _ (by simp [wipeD])
    · simp
      refine ⟨by omega, by omega, ?_⟩
      have e : (allSd R x y).map sdD = .tuple [.str "apart", .int 0] :: ((List.range R[y]).map (fun i => sdD (.inn i)) ++ (List.range R[x]).map fun i => sdD (.aro i)) := by
        simp [allSd, hx, hy, Function.comp_def, sdD]
      unfold letsL at h
      rw [e] at h
      exact h
def p_Lless : DRn := fun ds k => ∃ l t, (ds = [lotL l, nD t] ∨ ds = [lotD l, nD t]) ∧ l.length ≤ 1000 ∧ k (lotL (less l t))
theorem r_Lless : ∀ ds kk, p_Lless ds kk → d__law_less (fin kk) (env0 3 (ds.map .dat)) := by
  rintro ds kk ⟨l, t, rfl | rfl, hl, h⟩ <;>
  · simp [d__law_less, env0]
    refine lcOf_map l nD (fun x => decide (x ≠ t)) nD (by omega) (by simp [Slot.ads]) (by simp) (fun x hx Y N hY hN => ?_) fun l => ?_
    · by_cases e : x = t <;> simp [wipeD, e]
      · exact hN _ (by simp [wipeD]) (by simpa)
      · exact hY _ (by simp [wipeD]) (by simpa)
    · simpa [lotL, less] using h
def p_Lhung : DRn := fun ds k => ∃ f x p, ds = [forestD f, nD x, placeD p] ∧ x < f.length ∧ f.length ≤ 24 ∧ k (forestD (f.set x p))
theorem r_Lhung : ∀ ds kk, p_Lhung ds kk → d__law_hung (fin kk) (env0 3 (ds.map .dat)) := r_put
def p_Lnumber : DRn := fun ds k => ∃ a n, ds = [nD a, nD n] ∧ a < n ∧ k (.bool true)
theorem r_Lnumber : ∀ ds kk, p_Lnumber ds kk → d__law_number (fin kk) (env0 2 (ds.map .dat)) := by
  rintro ds kk ⟨a, n, rfl, hn, h⟩
  simpa [d__law_number, env0, hn] using h
def p_Lis_forest : DRn := fun ds k => ∃ R f, ds = [lotD R, forestD f] ∧ ROk R ∧ Good R f ∧ k (.bool true)
theorem r_Lis_forest : ∀ ds kk, p_Lis_forest ds kk → d__law_is_forest p_Lnumber p_Lclimb (fin kk) (env0 4 (ds.map .dat)) := by
  rintro ds kk ⟨R, f, rfl, hR, g, h⟩
  have hf := g.len
  have hl := hR.len
  simp [d__law_is_forest, env0, hf]
  refine ⟨by omega, ?_⟩
  obtain ⟨W, hW⟩ := opq fun i ρ => ∃ s1 s2, ρ = [.dat (lotD R), .dat (forestD f), s1, s2] ∧ s2.ads = []
  refine forOf_ints (n := R.length) W ((hW _ _).mpr ⟨_, _, rfl, rfl⟩) ?_ ?_
  · intro i ρ' hi w'
    obtain ⟨s1, s2, rfl, _⟩ := (hW _ _).mp w'
    have hif : i < f.length := by omega
    simp
    refine ⟨placeD (up f i), ⟨_, getP hif, rfl⟩, ?_⟩
    cases e : up f i with
    | none =>
      simp
      exact (hW _ _).mpr ⟨_, _, rfl, rfl⟩
    | some q =>
      obtain ⟨a, r⟩ := q
      obtain ⟨h1, h2, h3⟩ := g.pl i a r e
      rw [getI' h1] at h3
      simp [p_Lnumber, h1, h2, h3]
      exact (hW _ _).mpr ⟨_, _, rfl, rfl⟩
  · intro ρ' w'
    obtain ⟨s1, s2, rfl, h2⟩ := (hW _ _).mp w'
    simp [hf]
    refine ⟨by omega, ?_⟩
    obtain ⟨V, hV⟩ := opq fun i ρ => ∃ s1 s2, ρ = [.dat (lotD R), .dat (forestD f), s1, s2] ∧ s2.ads = []
    refine forOf_ints (n := R.length) V ((hV _ _).mpr ⟨_, _, rfl, h2⟩) ?_ ?_
    · intro i ρ' hi w'
      obtain ⟨s1, s2, rfl, h2⟩ := (hV _ _).mp w'
      simp [p_Lclimb]
      refine ⟨(Good.wf g), by omega, by omega, lcOf_all (climb f i) (fun p => placeD (some p)) (fun p => nD p.1) (by have := g.climb_len i; omega) (by simp [h2]) (by simp) (fun p hp Y hY => ?_) fun l => ?_⟩
      · simp [wipeD]
        exact hY _ (by simp [wipeD])
      · have e : (climb f i).map (fun p => nD p.1) = (arnd f i).map nD := by simp [arnd]
        have hno := g.notArnd i
        simp [e, hno]
        exact (hV _ _).mpr ⟨_, _, rfl, h2⟩
    · intro ρ' w'
      exact h
def p_Lbeneath : DRn := fun ds k => ∃ R f x, ds = [forestD f, nD x] ∧ Good R f ∧ R.length ≤ 24 ∧ x < R.length ∧ k (lotL (beneath f x))
theorem r_Lbeneath : ∀ ds kk, p_Lbeneath ds kk → d__law_beneath p_Lclimb (fin kk) (env0 4 (ds.map .dat)) := by
  rintro ds kk ⟨R, f, x, rfl, g, hl, hx, h⟩
  have hf := g.len
  simp [d__law_beneath, env0]
  refine ⟨by omega, ?_⟩
  rw [intsD_eq]
  refine lcOf_map _ nD (fun z => decide (z = x ∨ x ∈ arnd f z)) nD (by simp; omega) (by simp [Slot.ads]) (by simp) (fun z hz Y N hY hN => ?_) fun l => ?_
  · have hz : z < f.length := by simpa using hz
    by_cases ez : z = x
    · subst ez
      simp [wipeD]
      exact hY _ (by simp [wipeD]) (by simp)
    · simp [wipeD, ez, p_Lclimb]
      refine ⟨(Good.wf g), by omega, by omega, lcOf_all (climb f z) (fun p => placeD (some p)) (fun p => nD p.1) (by have := g.climb_len z; omega) (by simp [Slot.ads]) (by simp) (fun p hp Y2 hY2 => ?_) fun l => ?_⟩
      · simp [wipeD]
        exact hY2 _ (by simp [wipeD])
      · have e : (climb f z).map (fun p => nD p.1) = (arnd f z).map nD := by simp [arnd]
        by_cases e3 : x ∈ arnd f z <;> simp [e, e3]
        · exact hY _ (by simp [wipeD]) (by simp [e3])
        · exact hN _ (by simp [wipeD]) (by simp [ez, e3])
  · simpa [lotL, beneath] using h
end DL
end
section
set_option Elab.async false
set_option maxRecDepth 100000
set_option linter.all false
namespace DL
open PySem L2 L2.DC L2.GD MM
abbrev tD' (n : Nat) (L : Tab) : PyData := dictD (tabM letsL n L)
def p_Lover : DRn := fun ds k => ∃ R L t part, (ds = [lotD R, tD' R.length L, nD t, lotL part] ∨ ds = [lotD R, tD' R.length L, nD t, lotD part]) ∧ ROk R ∧ t < R.length ∧ (∀ c ∈ part, c < R.length ∧ c ≠ t) ∧ part.length ≤ 24 ∧ k (lotL (over R L t part))
theorem r_Lover : ∀ ds kk, p_Lover ds kk → d__law_over (fin kk) (env0 6 (ds.map .dat)) := by
  rintro ds kk ⟨R, L, t, part, rfl | rfl, hR, ht, hp, hl, h⟩ <;>
  · have h4 := rmost hR ht
    simp [d__law_over, env0, ht]
    refine ⟨by omega, ?_⟩
    rw [intsD_eq]
    refine lcOf_map _ nD (fun r => part.all fun c => decide (Sd.aro r ∈ L t c)) nD (by simp; omega) (by simp [Slot.ads]) (by simp) (fun r hr Y N hY hN => ?_) fun l => ?_
    · simp [wipeD]
      refine lcOf_map part nD (fun c => decide (Sd.aro r ∉ L t c)) nD (by omega) (by simp [Slot.ads]) (by simp) (fun c hc Y2 N2 hY2 hN2 => ?_) fun l => ?_
      · obtain ⟨h1, h2⟩ := hp c hc
        have hlk := look_tab (enc := letsL) (L := L) ht h1 (fun e => h2 e.symm)
        simp [wipeD]
        refine ⟨_, rfl, keyOf (t, c), rfl, by simp [keyOf], _, hlk, ?_⟩
        by_cases e : Sd.aro r ∈ L t c <;> simp [e]
        · exact hN2 _ (by simp [wipeD]) (by simpa)
        · exact hY2 _ (by simp [wipeD]) (by simpa)
      · simp
        split
        · rename_i e
          exact hY _ (by simp [wipeD]) (by simpa using e)
        · rename_i e
          exact hN _ (by simp [wipeD]) (by simpa using e)
    · simpa [lotL, over, ht] using h
/-! ### parts, by the law's own search -/
structure Bfs (L : Tab) (lot : List Nat) (s : Nat) (part left : List Nat) (at_ : Nat) : Prop where
  met : Met L lot s part []
  lf : left = lot.filter fun x => decide (x ∉ part)
  done : ∀ i x, i < at_ → part[i]? = some x → ∀ y ∈ left, linked L x y = false
theorem Bfs.step {L : Tab} {lot : List Nat} {s : Nat} {part left : List Nat} {at_ x : Nat} (h : Bfs L lot s part left at_) (nd : lot.Nodup) (hx : part[at_]? = some x) :
    Bfs L lot s (part ++ left.filter (fun y => linked L x y)) (left.filter fun y => decide (y ∉ left.filter fun y => linked L x y)) (at_ + 1) := by
  have hxm : x ∈ part := List.mem_of_getElem? hx
  have hln : left.Nodup := by rw [h.lf]; exact nd.filter _
  have hlm : ∀ y, y ∈ left ↔ y ∈ lot ∧ y ∉ part := fun y => by rw [h.lf]; simp
  refine ⟨⟨List.nodup_append.mpr ⟨h.met.nd, hln.filter _, fun a ha b hb e => ?_⟩, fun z hz => ?_, List.mem_append_left _ h.met.start, fun z hz => absurd hz (by simp)⟩, ?_, fun i z hi hz y hy => ?_⟩
  · subst e
    exact ((hlm a).mp (List.mem_filter.mp hb).1).2 ha
  · rcases List.mem_append.mp hz with hz | hz
    · exact h.met.sub z hz
    · obtain ⟨h1, h2⟩ := List.mem_filter.mp hz
      have h3 := (hlm z).mp h1
      exact ⟨h3.1, .step (h.met.sub x hxm).2 h3.1 (fun e => h3.2 (e ▸ hxm)) h2⟩
  · conv => lhs; rw [h.lf]
    rw [List.filter_filter]
    apply List.filter_congr
    intro y hy
    by_cases e1 : y ∈ part
    · simp [e1]
    · have e2 : y ∈ left := (hlm y).mpr ⟨hy, e1⟩
      by_cases e3 : linked L x y = true <;> simp [e1, e2, e3, h.lf, hy] <;> simp_all
  · obtain ⟨h1, h2⟩ := List.mem_filter.mp hy
    by_cases e : i < at_
    · have hzp : part[i]? = some z := by
        have hl : i < part.length := by
          have := (List.getElem?_eq_some_iff.mp hx).1
          omega
        rwa [List.getElem?_append_left hl] at hz
      exact h.done i z e hzp y h1
    · have ei : i = at_ := by omega
      subst ei
      have hl := (List.getElem?_eq_some_iff.mp hx).1
      rw [List.getElem?_append_left hl, hx] at hz
      cases hz
      cases e : linked L x y with
      | false => rfl
      | true =>
        have : y ∈ left.filter fun y => linked L x y := List.mem_filter.mpr ⟨h1, e⟩
        simp at h2
        rcases h2 with h2 | h2
        · exact absurd h1 h2
        · rw [h2] at e
          cases e
theorem Bfs.fin {L : Tab} {lot : List Nat} {s : Nat} {part left : List Nat} (h : Bfs L lot s part left part.length) : lot.filter (fun x => decide (x ∈ part)) = partOf L lot s ∧ left = lot.filter fun x => decide (x ∉ partOf L lot s) := by
  have h1 : lot.filter (fun x => decide (x ∈ part)) = partOf L lot s := part_of_met h.met fun x hx y hy hne hlk => by
    by_cases e : y ∈ part
    · exact e
    · obtain ⟨i, hi, hie⟩ := List.mem_iff_getElem.mp hx
      have := h.done i x hi (by rw [List.getElem?_eq_getElem hi, hie]) y (by rw [h.lf]; simp [hy, e])
      rw [hlk] at this
      cases this
  refine ⟨h1, ?_⟩
  rw [h.lf]
  apply List.filter_congr
  intro x hx
  have : x ∈ partOf L lot s ↔ x ∈ part := by
    rw [← h1]
    simp [hx]
  simp [this]
def p_Lparts : DRn := fun ds k => ∃ n L lot, (ds = [tD' n L, lotL lot] ∨ ds = [tD' n L, lotD lot]) ∧ n ≤ 24 ∧ LotOk n lot ∧ k (lotsL (parts L lot))
theorem r_Lparts : ∀ ds kk, p_Lparts ds kk → d__law_parts (fin kk) (env0 8 (ds.map .dat)) := by
  rintro ds kk ⟨n, L, lot, hds, hn, hlot, h⟩
  have hll := hlot.len
  have key : ∀ d, items d = some (lot.map nD) → d__law_parts (fin kk) (env0 8 ([tD' n L, d].map .dat)) := by
    intro d hd
    simp [d__law_parts, env0]
    refine sortOf_n hd hlot.nd (List.Perm.refl _) ?_
    intro a1
    obtain ⟨W, hW⟩ := opq fun m ρ => ∃ told left s4 s5 s6 s7, ρ = [.dat (tD' n L), .dat d, .dat (lotL left), .lst a1 (told.map lotD), s4, s5, s6, s7] ∧ LotOk n left ∧ told ++ parts L left = parts L lot ∧ m = left.length ∧ s4.ads = [] ∧ s5.ads = [] ∧ s6.ads = [] ∧ s7.ads = []
    refine ⟨W, ⟨_, (hW _ _).mpr ⟨[], lot, .no, .no, .no, .no, by simp [lotL], hlot, rfl, rfl, rfl, rfl, rfl, rfl⟩⟩, ?_⟩
    intro m ρ w
    obtain ⟨told, left, s4, s5, s6, s7, rfl, hlo, hto, rfl, h4, h5, h6, h7⟩ := (hW _ _).mp w
    have hlo' := hlo.len
    cases left with
    | nil =>
      rw [parts_nil, List.append_nil] at hto
      subst hto
      have e0 : PyData.eqv (lotL []) (.list []) = true := eqv_nil [] nD
      simp [e0]
      simpa [lotsL] using h
    | cons a l =>
      have e0 : PyData.eqv (lotL (a :: l)) (.list []) = false := eqv_nil (a :: l) nD
      simp [e0, -List.map_cons]
      have hnd := hlo.nodup
      obtain ⟨hal, hln⟩ := List.nodup_cons.mp hnd
      have hlen : (a :: l).length ≤ 24 := by omega
      have start : Bfs L (a :: l) a [a] l 0 := by
        refine ⟨⟨by simp, fun x hx => ?_, by simp, fun x hx => by cases hx⟩, ?_, fun i x hi => by omega⟩
        · have : x = a := by simpa using hx
          subst this
          exact ⟨List.mem_cons_self, .refl⟩
        · rw [List.filter_cons_of_neg (by simp)]
          symm
          rw [List.filter_eq_self]
          intro x hx
          have : x ≠ a := fun e => hal (e ▸ hx)
          simpa using this
      obtain ⟨V, hV⟩ := opq fun m ρ => ∃ (part left : List Nat) (at_ : Nat) (s6 s7 : Slot), ρ = [.dat (tD' n L), .dat d, .dat (lotL left), .lst a1 (told.map lotD), .dat (lotL part), .dat (nD at_), s6, s7] ∧ Bfs L (a :: l) a part left at_ ∧ at_ ≤ part.length ∧ m = (a :: l).length - at_ ∧ s6.ads = [] ∧ s7.ads = []
      refine ⟨V, ⟨_, (hV _ _).mpr ⟨[a], l, 0, s6, s7, rfl, start, by simp, rfl, h6, h7⟩⟩, ?_⟩
      intro m ρ v
      obtain ⟨part, left, at_, s6', s7', rfl, hb, hle, rfl, h6', h7'⟩ := (hV _ _).mp v
      have hpl : part.length ≤ (a :: l).length := hb.met.len hnd
      have hleft : ∀ y ∈ left, y ∈ a :: l ∧ y ∉ part := fun y hy => by
        rw [hb.lf] at hy
        simpa using hy
      have hll2 : left.length ≤ 24 := by
        rw [hb.lf]
        exact Nat.le_trans (List.length_filter_le _ _) hlen
      by_cases hat : at_ < part.length
      · have hx : part[at_]? = some part[at_] := List.getElem?_eq_getElem hat
        have hxm := List.mem_of_getElem? hx
        have hxn : part[at_] < n := hlo.lt _ (hb.met.sub _ hxm).1
        simp [hat, Nat.not_le.mpr hat]
        refine lcOf_map left nD (fun y => linked L part[at_] y) nD (by omega) (by simp [h7']) (by simp) (fun y hy Y N hY hN => ?_) fun l1 => ?_
        · obtain ⟨hy1, hy2⟩ := hleft y hy
          have hne : part[at_] ≠ y := fun e => hy2 (e ▸ hxm)
          have hlk := look_tab (enc := letsL) (L := L) hxn (hlo.lt y hy1) hne
          simp [wipeD]
          refine ⟨_, ⟨_, hx, rfl⟩, _, rfl, keyOf (part[at_], y), rfl, by simp [keyOf], _, hlk, ?_⟩
          by_cases hap : Sd.apart ∈ L part[at_] y <;> simp [hap]
          · exact hN _ (by simp [wipeD]) (by simp [linked, hap])
          · exact hY _ (by simp [wipeD]) (by simp [linked, hap])
        · simp
          refine lcOf_map left nD (fun y => decide (y ∉ left.filter fun y => linked L part[at_] y)) nD (by omega) (by simp [h7']) (by simp) (fun y hy Y N hY hN => ?_) fun l2 => ?_
          · by_cases e : linked L part[at_] y = true <;> simp [wipeD, hy, e]
            · exact hN _ (by simp [wipeD]) (by simp [hy, e])
            · exact hY _ (by simp [wipeD]) (by simp [hy, e])
          · have hst := hb.step hnd hx
            have hl2 : (part ++ left.filter fun y => linked L part[at_] y).length ≤ (a :: l).length := hst.met.len hnd
            simp only [List.length_append] at hl2
            simp
            have hcl : (a :: l).length = l.length + 1 := rfl
            refine ⟨by omega, (a :: l).length - (at_ + 1), by omega, (hV _ _).mpr ⟨_, _, at_ + 1, .dat (lotL (left.filter fun y => linked L part[at_] y)), s7', ?_, hst, by rw [List.length_append]; omega, rfl, rfl, h7'⟩⟩
            simp [lotL, nD]
      · have e : at_ = part.length := by omega
        subst e
        obtain ⟨f1, f2⟩ := hb.fin
        have hp : part.Perm (partOf L (a :: l) a) := by
          rw [← f1]
          refine (List.perm_ext_iff_of_nodup hb.met.nd (hnd.filter _)).mpr fun x => ?_
          simp
          exact fun hx => by simpa using (hb.met.sub x hx).1
        have hpn : told.length < 1000000 := by
          have h1 := congrArg List.length hto
          have h2 := parts_len (L := L) (lot := lot)
          rw [List.length_append] at h1
          omega
        have hrl : left = MM.rest L (a :: l) a := f2
        have hlt := rest_lt (L := L) (a := a) (l := l)
        simp
        refine sortOf_n (l := part) (m := partOf L (a :: l) a) it_loL (hlo.filter _).nd hp ⟨_, rfl, hpn, left.length, by rw [hrl]; simpa using hlt, (hW _ _).mpr ⟨told ++ [partOf L (a :: l) a], left, .dat (lotL part), .dat (nD part.length), s6', s7', by simp [lotD], by rw [hrl]; exact hlo.filter _, ?_, rfl, rfl, rfl, h6', h7'⟩⟩
        rw [hrl, ← hto, parts_cons]
        simp
  rcases hds with rfl | rfl
  · exact key _ it_loL
  · exact key _ it_lo
end DL
end
section
set_option Elab.async false
set_option maxRecDepth 100000
set_option linter.all false
namespace DL
open PySem L2 L2.DC L2.GD MM
theorem td_inj' {n : Nat} {L : Tab} : True := trivial
def p_Lfree : DRn := fun ds k => ∃ R L lot, (ds = [lotD R, tD' R.length L, lotL lot] ∨ ds = [lotD R, tD' R.length L, lotD lot]) ∧ ROk R ∧ LotOk R.length lot ∧ k (lotL (freeIn R L lot))
theorem r_Lfree : ∀ ds kk, p_Lfree ds kk → d__law_free p_Lparts p_Lless p_Lover (fin kk) (env0 6 (ds.map .dat)) := by
  rintro ds kk ⟨R, L, lot, hds, hR, hlot, h⟩
  have hl := hR.len
  have hll := hlot.len
  have key : ∀ d, (d = lotL lot ∨ d = lotD lot) → d__law_free p_Lparts p_Lless p_Lover (fin kk) (env0 6 ([lotD R, tD' R.length L, d].map .dat)) := by
    intro d hd
    have hdi : items d = some (lot.map nD) := by rcases hd with rfl | rfl <;> rfl
    simp [d__law_free, env0, hdi]
    intro a1
    obtain ⟨W, hW⟩ := opq fun i ρ => ∃ (s4 s5 : Slot), ρ = [.dat (lotD R), .dat (tD' R.length L), .dat d, .lst a1 (((lot.take i).filter fun t => isFree R L lot t).map nD), s4, s5] ∧ s5.ads = []
    refine forOf_map lot nD W ((hW _ _).mpr ⟨.no, .no, by simp, rfl⟩) ?_ ?_
    · intro i t ρ' ht w
      obtain ⟨s4, s5, rfl, h5⟩ := (hW _ _).mp w
      have htn := hlot.lt t (List.mem_of_getElem? ht)
      have hlt := List.length_filter_le (fun t => isFree R L lot t) (lot.take i)
      rw [List.length_take] at hlt
      have tk : lot.take (i + 1) = lot.take i ++ [t] := by rw [List.take_add_one, ht]; rfl
      simp [p_Lless]
      refine ⟨lot, t, by rcases hd with rfl | rfl <;> simp, by omega, ?_⟩
      simp [p_Lparts]
      refine ⟨R.length, L, less lot t, .inl ⟨rfl, rfl⟩, hl, hlot.less t, ?_⟩
      have hpl := parts_len (L := L) (lot := less lot t)
      have hll2 := (hlot.less t).len
      refine lcOf_map _ lotD (fun p => decide (over R L t p = [])) lotD (by omega) (by simp [h5]) (by simp) (fun p hp Y N hY hN => ?_) fun l => ?_
      · have hps := parts_sub hp
        have hpo := (hlot.less t).sub hps
        simp [wipeD, p_Lover]
        refine ⟨R, L, t, p, .inr ⟨rfl, rfl, rfl, rfl⟩, hR, htn, fun c hc => ⟨hpo.lt c hc, ?_⟩, by have := hpo.len; omega, ?_⟩
        · have := (List.mem_filter.mp (hps.subset hc)).2
          simpa using this
        · have e0 : PyData.eqv (lotL (over R L t p)) (.list []) = (over R L t p).isEmpty := eqv_nil _ nD
          cases e : over R L t p with
          | nil =>
            rw [e] at e0
            simp [e0]
            exact hY _ (by simp [wipeD]) (by simp [e])
          | cons b r =>
            rw [e] at e0
            simp [e0]
            exact hN _ (by simp [wipeD]) (by simp [e])
      · have e0 : ∀ xs : List (List Nat), PyData.eqv (.list (xs.map lotD)) (.list []) = xs.isEmpty := fun xs => eqv_nil xs lotD
        have okk : ∀ xs : List (List Nat), okD 60 (.list (xs.map lotD)) = True := fun xs => eq_true (ok_mapL (k := 59) (fun _ => ok_lot (k := 58)) xs)
        by_cases e : isFree R L lot t = true
        · have ee : (parts L (less lot t)).filter (fun p => decide (over R L t p = [])) = [] := List.filter_eq_nil_iff.mpr fun p hp => by
            have := List.all_eq_true.mp e p hp
            simpa using this
          rw [ee]
          have e1 := e0 []
          simp at e1
          simp [e1]
          refine ⟨by omega, (hW _ _).mpr ⟨.dat (nD t), s5, ?_, h5⟩⟩
          rw [tk, List.filter_append]
          simp [e]
        · have ee : ((parts L (less lot t)).filter (fun p => decide (over R L t p = []))).isEmpty = false := by
            rw [Bool.eq_false_iff]
            intro hh
            rw [List.isEmpty_iff, List.filter_eq_nil_iff] at hh
            exact e (List.all_eq_true.mpr fun p hp => by simpa using hh p hp)
          have e1 := e0 ((parts L (less lot t)).filter (fun p => decide (over R L t p = [])))
          rw [ee] at e1
          simp [e1, okk]
          refine (hW _ _).mpr ⟨.dat (nD t), s5, ?_, h5⟩
          rw [tk, List.filter_append]
          simp [e]
    · intro ρ' w
      obtain ⟨s4, s5, rfl, h5⟩ := (hW _ _).mp w
      rw [List.take_of_length_le (Nat.le_refl _)]
      simpa [lotL, freeIn] using h
  rcases hds with rfl | rfl
  · exact key _ (.inl rfl)
  · exact key _ (.inr rfl)
def p_Lkept : DRn := fun ds k => ∃ R L f, ds = [tD' R.length L, forestD f] ∧ ROk R ∧ Least R L f ∧ k (.bool true)
theorem r_Lkept : ∀ ds kk, p_Lkept ds kk → d__law_kept p_Lstanding (fin kk) (env0 4 (ds.map .dat)) := by
  rintro ds kk ⟨R, L, f, rfl, hR, hL, h⟩
  have g := hL.good
  have hf := g.len
  have hl := hR.len
  simp [d__law_kept, env0]
  refine ⟨by omega, ?_⟩
  obtain ⟨W, hW⟩ := opq fun i ρ => ∃ (s2 s3 : Slot), ρ = [.dat (tD' R.length L), .dat (forestD f), s2, s3]
  refine forOf_ints (n := f.length) W ((hW _ _).mpr ⟨_, _, rfl⟩) ?_ ?_
  · intro i ρ' hi w
    obtain ⟨s2, s3, rfl⟩ := (hW _ _).mp w
    simp
    refine ⟨by omega, ?_⟩
    obtain ⟨V, hV⟩ := opq fun j ρ => ∃ (s3 : Slot), ρ = [.dat (tD' R.length L), .dat (forestD f), .dat (nD i), s3]
    refine forOf_ints (n := i) V ((hV _ _).mpr ⟨_, rfl⟩) ?_ ?_
    · intro j ρ' hj v
      obtain ⟨s3, rfl⟩ := (hV _ _).mp v
      have hlk := look_tab (enc := letsL) (L := L) (n := R.length) (a := i) (b := j) (by omega) (by omega) (by omega)
      simp [p_Lstanding]
      refine ⟨Good.wf g, by omega, by omega, by omega, _, rfl, keyOf (i, j), rfl, by simp [keyOf], _, hlk, ?_⟩
      have := hL.lets i j (by omega) (by omega) (by omega)
      simp [this]
      exact (hV _ _).mpr ⟨_, rfl⟩
    · intro ρ' v
      obtain ⟨s3, rfl⟩ := (hV _ _).mp v
      exact (hW _ _).mpr ⟨_, _, rfl⟩
  · intro ρ' w
    exact h
def p_Lis_least : DRn := fun ds k => ∃ R L f, ds = [lotD R, tD' R.length L, forestD f] ∧ ROk R ∧ Least R L f ∧ k (.bool true)
theorem r_Lis_least : ∀ ds kk, p_Lis_least ds kk → d__law_is_least p_Lis_forest p_Lkept p_Lparts p_Lbeneath (fin kk) (env0 4 (ds.map .dat)) := by
  rintro ds kk ⟨R, L, f, rfl, hR, hL, h⟩
  have g := hL.good
  have hf := g.len
  have hl := hR.len
  simp [d__law_is_least, env0, p_Lis_forest, hR, g]
  simp [p_Lkept]
  refine ⟨R, L, rfl, hR, hL, by omega, ?_⟩
  rw [intsD_eq]
  refine lcOf_map _ nD (fun _ => false) nD (by simp; omega) (by simp [Slot.ads]) (by simp) (fun x hx Y N hY hN => ?_) fun l => ?_
  · have hx : x < R.length := by rw [← hf]; simpa using hx
    simp [wipeD, p_Lbeneath]
    refine ⟨R, g, hl, hx, ?_⟩
    simp [p_Lparts]
    refine ⟨R.length, L, beneath f x, .inl ⟨rfl, rfl⟩, hl, beneath_ok g, ?_⟩
    rw [hL.whole x hx]
    simp
    exact hN _ (by simp [wipeD]) rfl
  · have e : (List.range f.length).filter (fun _ => false) = [] := by simp
    rw [e]
    simp [PyData.eqv, PyData.eqvAll]
    exact h
def p_Lpart_of : DRn := fun ds k => ∃ n L lot t, ds = [tD' n L, lotL lot, nD t] ∧ n ≤ 24 ∧ LotOk n lot ∧ t ∈ lot ∧ k (lotD (partW L lot t))
theorem r_Lpart_of : ∀ ds kk, p_Lpart_of ds kk → d__law_part_of p_Lparts (fin kk) (env0 4 (ds.map .dat)) := by
  rintro ds kk ⟨n, L, lot, t, rfl, hn, hlot, ht, h⟩
  have hll := hlot.len
  have hpl := parts_len (L := L) (lot := lot)
  simp [d__law_part_of, env0, p_Lparts]
  refine ⟨n, L, lot, .inl ⟨rfl, rfl⟩, hn, hlot, lcOf_map _ lotD (fun p => decide (t ∈ p)) lotD (by omega) (by simp [Slot.ads]) (by simp) (fun p hp Y N hY hN => ?_) fun l => ?_⟩
  · simp [wipeD]
    split
    · rename_i e
      exact hY _ (by simp [wipeD]) (by simpa using e)
    · rename_i e
      exact hN _ (by simp [wipeD]) (by simpa using e)
  · obtain ⟨p, r, e, _, _⟩ := part_of_mem (L := L) ht
    unfold partW at h
    rw [e] at h ⊢
    simpa using h
end DL
end
section
set_option Elab.async false
set_option maxRecDepth 100000
set_option linter.all false
namespace DL
open PySem L2 L2.DC L2.GD MM
theorem put_new {m : KMap} {q : Nat × Nat} {d : PyData} (h : ∀ z ∈ m, z.1 ≠ keyOf q) : putM m (keyOf q) d = m ++ [(keyOf q, d)] := by
  unfold putM
  rw [if_neg]
  intro ha
  obtain ⟨z, hz, hq⟩ := List.any_eq_true.mp ha
  exact h z hz (of_decide_eq_true hq)
def rowsP (n i : Nat) : List (Nat × Nat) := (List.range i).flatMap fun x => ((List.range n).filter fun y => decide (x ≠ y)).map fun y => (x, y)
def rowP (i j : Nat) : List (Nat × Nat) := ((List.range j).filter fun y => decide (i ≠ y)).map fun y => (i, y)
theorem mem_rowsP {n i a b : Nat} (h : (a, b) ∈ rowsP n i) : a < i := by
  unfold rowsP at h
  simp only [List.mem_flatMap, List.mem_map, List.mem_range, Prod.mk.injEq] at h
  obtain ⟨x, hx, y, _, rfl, rfl⟩ := h
  exact hx
theorem mem_rowP {i j a b : Nat} (h : (a, b) ∈ rowP i j) : a = i ∧ b < j := by
  unfold rowP at h
  simp only [List.mem_map, List.mem_filter, List.mem_range, Prod.mk.injEq] at h
  obtain ⟨y, ⟨hy, _⟩, rfl, rfl⟩ := h
  exact ⟨rfl, hy⟩
theorem rowsP_succ {n i : Nat} : rowsP n (i + 1) = rowsP n i ++ rowP i n := by
  unfold rowsP rowP
  rw [List.range_succ, List.flatMap_append]
  simp
theorem rowP_succ {i j : Nat} : rowP i (j + 1) = rowP i j ++ (if i ≠ j then [(i, j)] else []) := by
  unfold rowP
  rw [List.range_succ, List.filter_append, List.map_append]
  by_cases h : i = j <;> simp [h]
def tabL (enc : List Sd → PyData) (L : Tab) (ps : List (Nat × Nat)) : KMap := ps.map fun p => (keyOf p, enc (L p.1 p.2))
theorem rowsP_len {n : Nat} : ∀ i, (rowsP n i).length ≤ i * n
  | 0 => by simp [rowsP]
  | i + 1 => by
    have h1 := rowsP_len (n := n) i
    have h2 := List.length_filter_le (fun y => decide (i ≠ y)) (List.range n)
    rw [List.length_range] at h2
    have h3 : (rowP i n).length ≤ n := by
      unfold rowP
      rw [List.length_map]
      exact h2
    rw [rowsP_succ, List.length_append, Nat.succ_mul]
    omega
theorem rowP_len {i j : Nat} : (rowP i j).length ≤ j := by
  have h2 := List.length_filter_le (fun y => decide (i ≠ y)) (List.range j)
  rw [List.length_range] at h2
  unfold rowP
  rw [List.length_map]
  exact h2
theorem turn_turn (s : Sd) : s.turn.turn = s := by cases s <;> rfl
theorem mem_turned {l : List Sd} {s : Sd} : s ∈ turned l ↔ s ∈ l.map Sd.turn := by
  unfold turned
  simp only [List.mem_append, List.mem_filter, List.mem_map]
  constructor
  · rintro ((⟨h1, h2⟩ | ⟨t, ⟨h1, h2⟩, rfl⟩) | ⟨t, ⟨h1, h2⟩, rfl⟩)
    · have : s = .apart := of_decide_eq_true h2
      subst this
      exact ⟨_, h1, rfl⟩
    · exact ⟨t, h1, rfl⟩
    · exact ⟨t, h1, rfl⟩
  · rintro ⟨t, h1, rfl⟩
    cases t with
    | apart => exact .inl (.inl ⟨h1, by decide⟩)
    | inn r => exact .inr ⟨_, ⟨h1, rfl⟩, rfl⟩
    | aro r => exact .inl (.inr ⟨_, ⟨h1, rfl⟩, rfl⟩)
theorem common_turned {a l : List Sd} : a.filter (fun s => decide (s ∈ l.map Sd.turn)) = common a (turned l) := by
  unfold common
  apply List.filter_congr
  intro s _
  simp only [mem_turned]
def p_Ltable : DRn := fun ds k => ∃ R ss, (ds = [lotD R, saysL ss] ∨ ds = [lotD R, saysL ss]) ∧ BkOk R ss ∧ k (tD' R.length (tabOf R ss))
theorem r_Ltable : ∀ ds kk, p_Ltable ds kk → d__law_table p_Levery p_Lturned (fin kk) (env0 8 (ds.map .dat)) := by
  intro ds kk hh
  obtain ⟨R, ss, hds, hB, h⟩ := hh
  have hds : ds = [lotD R, saysL ss] := by rcases hds with h | h <;> exact h
  subst hds
  have hR := hB.rooms
  have hl := hR.len
  have hsq : R.length * R.length ≤ 576 := Nat.mul_le_mul hl hl
  simp [d__law_table, env0, -Prod.exists, -Prod.forall]
  intro a1
  refine ⟨by omega, ?_⟩
  obtain ⟨W, hW⟩ := opq fun i ρ => ∃ (s3 s4 : Slot), ρ = [.dat (lotD R), .dat (saysL ss), .dT a1 ((tabL letsL (allSd R) (rowsP R.length i)).map encKV), s3, s4, .no, .no, .no]
  refine forOf_ints (n := R.length) W ((hW _ _).mpr ⟨.no, .no, by simp [tabL, rowsP]⟩) ?_ ?_
  · intro i ρ' hi w
    obtain ⟨s3, s4, rfl⟩ := (hW _ _).mp w
    simp [-Prod.exists, -Prod.forall]
    refine ⟨by omega, ?_⟩
    obtain ⟨V, hV⟩ := opq fun j ρ => ∃ (s4 : Slot), ρ = [.dat (lotD R), .dat (saysL ss), .dT a1 ((tabL letsL (allSd R) (rowsP R.length i ++ rowP i j)).map encKV), .dat (nD i), s4, .no, .no, .no]
    refine forOf_ints (n := R.length) V ((hV _ _).mpr ⟨s4, by simp [rowP]⟩) ?_ ?_
    · intro j ρ' hj v
      obtain ⟨s4, rfl⟩ := (hV _ _).mp v
      by_cases e : i = j
      · subst e
        simp [-Prod.exists, -Prod.forall]
        refine (hV _ _).mpr ⟨.dat (nD i), ?_⟩
        rw [rowP_succ]
        simp
      · have l1 := rowsP_len (n := R.length) i
        have l2 := rowP_len (i := i) (j := j)
        have l3 : i * R.length ≤ R.length * R.length := Nat.mul_le_mul_right _ (by omega)
        have fresh : ∀ z ∈ tabL letsL (allSd R) (rowsP R.length i ++ rowP i j), z.1 ≠ keyOf (i, j) := by
          intro z hz
          obtain ⟨⟨a, b⟩, hp, rfl⟩ := List.mem_map.mp hz
          intro ek
          have ek := keyOf_inj.mp ek
          cases ek
          rcases List.mem_append.mp hp with hp | hp
          · have := mem_rowsP hp
            omega
          · have := mem_rowP hp
            omega
        simp [e, p_Levery, hR, hi, hj, -Prod.exists, -Prod.forall]
        refine ⟨_, rfl, keyOf (i, j), rfl, by simp [keyOf], by simp [tabL]; omega, ?_⟩
        rw [put_new fresh]
        refine (hV _ _).mpr ⟨.dat (nD j), ?_⟩
        rw [rowP_succ]
        simp [e, tabL]
    · intro ρ' v
      obtain ⟨s4, rfl⟩ := (hV _ _).mp v
      refine (hW _ _).mpr ⟨.dat (nD i), s4, ?_⟩
      rw [rowsP_succ]
  · intro ρ' w
    obtain ⟨s3, s4, rfl⟩ := (hW _ _).mp w
    have et : tabL letsL (allSd R) (rowsP R.length R.length) = tabM letsL R.length (allSd R) := rfl
    rw [et]
    simp [-Prod.exists, -Prod.forall]
    obtain ⟨V, hV⟩ := opq fun i ρ => ∃ (L : Tab) (s3 s4 s5 s6 s7 : Slot), ρ = [.dat (lotD R), .dat (saysL ss), .dT a1 ((tabM letsL R.length L).map encKV), s3, s4, s5, s6, s7] ∧ (∀ x y, x < R.length → y < R.length → (L x y).length ≤ 9) ∧ L = (ss.take i).foldl addSay (allSd R) ∧ s7.ads = []
    refine forOf_map ss sayD V ((hV _ _).mpr ⟨allSd R, s3, s4, .no, .no, .no, rfl, fun x y hx hy => allSd_len hR hx hy, by simp, rfl⟩) ?_ ?_
    · intro i s ρ' hs v
      obtain ⟨L, s3, s4, s5, s6, s7, rfl, hLl, hL, h7⟩ := (hV _ _).mp v
      have hS := hB.says s (List.mem_of_getElem? hs)
      obtain ⟨q1, q2, q3, q4⟩ := hS
      have sl := sub_len hR (hB.says s (List.mem_of_getElem? hs))
      have c1 := hLl s.1 s.2.1 q1 q2
      have c2 := hLl s.2.1 s.1 q2 q1
      have q3' : s.2.1 ≠ s.1 := fun e => q3 e.symm
      have c3 : (upd2 L s.1 s.2.1 (common (L s.1 s.2.1) s.2.2) s.2.1 s.1).length ≤ 9 := by
        unfold upd2
        split
        · exact Nat.le_trans common_len c1
        · exact c2
      have tl := tab_len (enc := letsL) (n := R.length) (L := L)
      have tl2 := tab_len (enc := letsL) (n := R.length) (L := upd2 L s.1 s.2.1 (common (L s.1 s.2.1) s.2.2))
      simp [-Prod.exists, -Prod.forall]
      refine lcOf_all s.2.2 sdD (fun t => sdD t.turn) (by omega) (by simp [h7]) (by simp) (fun t ht Y hY => ?_) fun l1 => ?_
      · simp [wipeD, p_Lturned]
        exact hY _ (by simp [wipeD])
      · simp [-Prod.exists, -Prod.forall]
        refine ⟨_, rfl, keyOf (s.1, s.2.1), rfl, by simp [keyOf], _, look_tab q1 q2 q3, _, rfl, lcOf_map (L s.1 s.2.1) sdD (fun t => decide (t ∈ s.2.2)) sdD (by omega) (by simp [h7]) (by simp) (fun t ht Y N hY hN => ?_) fun l2 => ?_⟩
        · simp [wipeD, -Prod.exists, -Prod.forall]
          split
          · exact hY _ (by simp [wipeD]) (by simpa)
          · exact hN _ (by simp [wipeD]) (by simpa)
        · have e1 : PyData.list ((common (L s.1 s.2.1) s.2.2).map sdD) = letsL (common (L s.1 s.2.1) s.2.2) := rfl
          have e1' : (L s.1 s.2.1).filter (fun t => decide (t ∈ s.2.2)) = common (L s.1 s.2.1) s.2.2 := rfl
          rw [e1']
          simp [-Prod.exists, -Prod.forall]
          refine ⟨_, rfl, keyOf (s.1, s.2.1), rfl, by simp [keyOf], by omega, ?_⟩
          rw [e1, put_tab q1 q2 q3]
          refine ⟨_, rfl, keyOf (s.2.1, s.1), rfl, by simp [keyOf], _, look_tab q2 q1 q3', _, rfl, lcOf_map (upd2 L s.1 s.2.1 (common (L s.1 s.2.1) s.2.2) s.2.1 s.1) sdD (fun t => decide (t ∈ s.2.2.map Sd.turn)) sdD (by omega) (by simp [h7]) (by simp) (fun t ht Y N hY hN => ?_) fun l3 => ?_⟩
          · have e9 : s.2.2.map (fun t => sdD t.turn) = (s.2.2.map Sd.turn).map sdD := by rw [List.map_map]; rfl
            simp only [e9]
            simp [wipeD, -Prod.exists, -Prod.forall, -List.map_map, -List.mem_map]
            split
            · rename_i e
              exact hY _ (by simp [wipeD]) (by simpa using e)
            · rename_i e
              exact hN _ (by simp [wipeD]) (by simpa using e)
          · have e2' := common_turned (a := upd2 L s.1 s.2.1 (common (L s.1 s.2.1) s.2.2) s.2.1 s.1) (l := s.2.2)
            have e2 : PyData.list ((common (upd2 L s.1 s.2.1 (common (L s.1 s.2.1) s.2.2) s.2.1 s.1) (turned s.2.2)).map sdD) = letsL (common (upd2 L s.1 s.2.1 (common (L s.1 s.2.1) s.2.2) s.2.1 s.1) (turned s.2.2)) := rfl
            rw [e2']
            simp [-Prod.exists, -Prod.forall]
            refine ⟨_, rfl, keyOf (s.2.1, s.1), rfl, by simp [keyOf], by omega, ?_⟩
            rw [e2, put_tab q2 q1 q3']
            refine (hV _ _).mpr ⟨addSay L s, _, _, _, _, _, by rw [addSay_upd q3], fun x y hx hy => tabLen_add (hLl x y hx hy), ?_, h7⟩
            rw [List.take_add_one, hs, List.foldl_append, ← hL]
            rfl
    · intro ρ' v
      obtain ⟨L, s3, s4, s5, s6, s7, rfl, hLl, hL, h7⟩ := (hV _ _).mp v
      rw [List.take_of_length_le (Nat.le_refl _)] at hL
      subst hL
      simp [-Prod.exists, -Prod.forall]
      exact h
end DL
end
section
set_option Elab.async false
set_option maxRecDepth 100000
set_option linter.all false
namespace DL
open PySem L2 L2.DC L2.GD MM
theorem sorted_ext {a b : List Nat} (ha : a.Pairwise (· < ·)) (hb : b.Pairwise (· < ·)) (h : ∀ x, x ∈ a ↔ x ∈ b) : a = b :=
  List.Perm.eq_of_pairwise (le := (· ≤ ·)) (fun x y _ _ h1 h2 => Nat.le_antisymm h1 h2) (ha.imp fun h => Nat.le_of_lt h) (hb.imp fun h => Nat.le_of_lt h)
    ((List.perm_ext_iff_of_nodup (ha.imp fun h => by omega) (hb.imp fun h => by omega)).mpr h)
def p_Lhangs : DRn := fun ds k => ∃ R L f d h r, ds = [tD' R.length L, forestD f, deedD d] ∧ ROk R ∧ Good R f ∧ On f d.2.1 h r ∧ k (rowL (hangsOf L f d))
theorem moved_eq {R : List Nat} {L : Tab} {f : Forest} (g : Good R f) {x h r : Nat} (o : On f x h r) : (hPart L f x h).filter (fun o => lies f x o) = movedOf L f x h := by
  obtain ⟨q1, q2, q3⟩ := hPart_ok (L := L) g o
  refine sorted_ext (q1.nd.filter _) (List.Pairwise.filter _ List.pairwise_lt_range) fun y => ?_
  unfold movedOf
  rw [List.mem_filter, List.mem_filter, List.mem_range]
  constructor
  · rintro ⟨h1, h2⟩
    exact ⟨by rw [g.len]; exact q1.lt y h1, by rw [h2]; simpa using h1⟩
  · rintro ⟨h1, h2⟩
    rw [Bool.and_eq_true] at h2
    exact ⟨by simpa using h2.2, h2.1⟩
theorem r_Lhangs : ∀ ds kk, p_Lhangs ds kk → d__law_hangs p_Lpart_of p_Lless p_Lbeneath (fin kk) (env0 11 (ds.map .dat)) := by
  rintro ds kk ⟨R, L, f, ⟨b, x, j⟩, hh, r, rfl, hR, g, o0, h⟩
  have hl := hR.len
  have hf := g.len
  have o : On f x hh r := o0
  obtain ⟨b1, b2, b3, b4, b5⟩ := on_beneath g o
  have bl := (beneath_ok g (x := hh)).len
  cases b with
  | false =>
    rw [hangs_shift o] at h
    simp [d__law_hangs, env0, dwD, tw_ne.2]
    exact ⟨placeD (some (hh, r)), ⟨_, o.get, rfl⟩, by simpa [rowL, hrD, placeD] using h⟩
  | true =>
    simp [d__law_hangs, env0, dwD, tw_ne.1]
    refine ⟨placeD (some (hh, r)), ⟨_, o.get, rfl⟩, ?_⟩
    simp [p_Lbeneath]
    refine ⟨R, g, hl, b3, ?_⟩
    simp [p_Lless]
    refine ⟨_, _, .inl ⟨rfl, rfl⟩, by omega, ?_⟩
    simp [p_Lpart_of]
    refine ⟨R.length, L, rfl, hl, (beneath_ok g).less x, List.mem_filter.mpr ⟨b2, by simpa using b5⟩, ?_⟩
    have eh : partW L (less (beneath f hh) x) hh = hPart L f x hh := rfl
    rw [eh]
    obtain ⟨q1, q2, q3⟩ := hPart_ok (L := L) g o
    have q4 := q1.len
    have q5 : (hPart L f x hh).length ≤ 1000000 := by have := q1.len; omega
    refine lcOf_map (hPart L f x hh) nD (fun o => lies f x o) nD q5 (by simp [Slot.ads]) (by simp) (fun y hy Y N hY hN => ?_) fun l => ?_
    · have hyl : y < f.length := by rw [hf]; exact q1.lt y hy
      simp [wipeD]
      refine ⟨placeD (up f y), ⟨_, getP hyl, rfl⟩, ?_⟩
      cases e : up f y with
      | none =>
        simp
        exact hN _ (by simp [wipeD]) (by simp [lies, e])
      | some p =>
        simp
        refine ⟨placeD (some p), ⟨up f y, getP hyl, by rw [e]⟩, [nD p.1, nD p.2], rfl, nD p.1, rfl, ?_⟩
        by_cases e2 : p.1 = x <;> simp [e2]
        · exact hY _ (by simp [wipeD]) (by simp [lies, e, e2])
        · exact hN _ (by simp [wipeD]) (by simp [lies, e, e2])
    · rw [moved_eq g o]
      have hml : (movedOf L f x hh).length ≤ 24 := by
        have := List.length_filter_le (fun o => lies f x o && decide (o ∈ hPart L f x hh)) (List.range f.length)
        rw [List.length_range] at this
        unfold movedOf
        omega
      simp
      refine ⟨placeD (up f hh), ⟨up f hh, getP (by omega), rfl⟩, lcOf_all (movedOf L f x hh) nD (fun o => hrD (o, some (hh, r))) (by omega) (by simp [Slot.ads]) (by simp) (fun q hq Y hY => ?_) fun l2 => ?_⟩
      · simp [wipeD]
        exact hY _ (by simp [wipeD])
      · simp
        refine ⟨by omega, ?_⟩
        rw [hangs_turn o] at h
        simpa [rowL, hrD, placeD, Function.comp_def] using h
def p_Lbehind : DRn := fun ds k => ∃ R L f d h r, ds = [tD' R.length L, forestD f, deedD d] ∧ ROk R ∧ Good R f ∧ On f d.2.1 h r ∧ k (forestD (behind L f d))
theorem r_Lbehind : ∀ ds kk, p_Lbehind ds kk → d__law_behind p_Lhangs p_Lhung (fin kk) (env0 5 (ds.map .dat)) := by
  rintro ds kk ⟨R, L, f, d, hh, r, rfl, hR, g, o, h⟩
  have hl := hR.len
  have hf := g.len
  simp [d__law_behind, env0, p_Lhangs, -Prod.exists]
  refine ⟨R, L, rfl, hR, g, ⟨hh, r, o⟩, ?_⟩
  obtain ⟨W, hW⟩ := opq fun i ρ => ∃ s3 s4, ρ = [.dat (tD' R.length L), .dat (forestD (putAll f ((hangsOf L f d).take i))), .dat (deedD d), s3, s4]
  refine forOf_map _ hrD W ((hW _ _).mpr ⟨_, _, rfl⟩) ?_ ?_
  · intro i q ρ' hq w
    obtain ⟨s1, s2, rfl⟩ := (hW _ _).mp w
    have hlen := putAll_len (f := f) (row := (hangsOf L f d).take i)
    have h1 := hangs_lt g o q (List.mem_of_getElem? hq)
    have h24 : f.length ≤ 24 := by omega
    simp [p_Lhung, hlen, h1, h24, -Prod.exists]
    refine (hW _ _).mpr ⟨.dat (nD q.1), .dat (placeD q.2), ?_⟩
    rw [List.take_add_one, hq]
    simp [putAll]
  · intro ρ' w
    obtain ⟨s1, s2, rfl⟩ := (hW _ _).mp w
    rw [List.take_of_length_le (Nat.le_refl _)]
    simpa [behind] using h
/-- the deeds that the law grants -/
noncomputable def turnsAt (R : List Nat) (L : Tab) (f : Forest) (x : Nat) : List Deed := match up f x with
  | none => []
  | some (h, _) => if isFree R L (beneath f h) x = true then (over R L x (hPart L f x h)).map fun j => (true, x, j) else []
noncomputable def shiftsAt (R : List Nat) (L : Tab) (f : Forest) (x : Nat) : List Deed := match up f x with
  | none => []
  | some (h, r) => ((over R L h (beneath f x)).filter fun j => decide (j ≠ r)).map fun j => (false, x, j)
noncomputable def lawDeeds (R : List Nat) (L : Tab) (f : Forest) : List Deed := (List.range f.length).flatMap (turnsAt R L f) ++ (List.range f.length).flatMap (shiftsAt R L f)
theorem granted_mem {R : List Nat} {L : Tab} {f : Forest} (g : Good R f) {d : Deed} (h : granted R L f d = true) : d ∈ lawDeeds R L f := by
  obtain ⟨hh, r, o⟩ := granted_on h
  obtain ⟨b, x, j⟩ := d
  have o : On f x hh r := o
  have hx : x ∈ List.range f.length := by rw [List.mem_range, g.len]; exact g.upLt o
  unfold lawDeeds
  cases b with
  | true =>
    rw [granted_turn o, Bool.and_eq_true] at h
    refine List.mem_append_left _ (List.mem_flatMap.mpr ⟨x, hx, ?_⟩)
    unfold turnsAt
    rw [show up f x = some (hh, r) from o]
    simp only [h.1, if_true]
    exact List.mem_map.mpr ⟨j, by simpa using h.2, rfl⟩
  | false =>
    rw [granted_shift o, Bool.and_eq_true] at h
    refine List.mem_append_right _ (List.mem_flatMap.mpr ⟨x, hx, ?_⟩)
    unfold shiftsAt
    rw [show up f x = some (hh, r) from o]
    exact List.mem_map.mpr ⟨j, List.mem_filter.mpr ⟨by simpa using h.1, h.2⟩, rfl⟩
end DL
end
section
set_option Elab.async false
set_option maxRecDepth 100000
set_option linter.all false
namespace DL
open PySem L2 L2.DC L2.GD MM
/-! chance: the law's source -/
structure Src (a b : Int) : Prop where
  a0 : 0 ≤ a
  b0 : 0 ≤ b
  b1 : b < 2147483647
def p_Ltake : DR1 := fun s ds k => ∃ l a b, ∃ top : Nat, s = .lst l [.int a, .int b] ∧ ds = [nD top] ∧ Src a b ∧ 0 < top ∧ top ≤ 1000 ∧ ∀ r a' b', r < top → Src a' b' → k (nD r) (.lst l [.int a', .int b'])
theorem fin_rt {s : Slot} {kk : PyData → Slot → Prop} {d : PyData} {ρ : Env} : (fin1 s kk).rt d ρ = ∃ s', ρ[0]? = some s' ∧ s'.ads = s.ads ∧ kk d s' := rfl
theorem mod_nD {i : Int} {top : Nat} (ht : 0 < top) (hi : 0 ≤ i) : ∃ r : Nat, r < top ∧ i % (top : Int) = (r : Int) := by
  have h1 : 0 ≤ i % (top : Int) := Int.emod_nonneg _ (by omega)
  have h2 : i % (top : Int) < top := Int.emod_lt_of_pos _ (by omega)
  exact ⟨(i % (top : Int)).toNat, by omega, by omega⟩
theorem r_Ltake : ∀ s ds kk, p_Ltake s ds kk → d__law_take (fin1 s kk) (env0 3 (s :: ds.map .dat)) := by
  rintro s ds kk ⟨l, a, b, top, rfl, rfl, ⟨ha, hb0, hb1⟩, ht, ht2, h⟩
  simp [d__law_take, env0, ends1, Slot.ads]
  by_cases hpos : 0 < a
  · obtain ⟨r, hr, er⟩ := mod_nD ht ha
    simp [hpos, CDiv, ht]
    refine .inr ⟨by omega, ?_⟩
    rw [er]
    exact h r (a / top) b hr ⟨Int.ediv_nonneg ha (by omega), hb0, hb1⟩
  · have hz : a = 0 := by omega
    subst hz
    have c0 : 0 ≤ (b * 39373 + 7) % 2147483647 := Int.emod_nonneg _ (by omega)
    have c1 : (b * 39373 + 7) % 2147483647 < 2147483647 := Int.emod_lt_of_pos _ (by omega)
    simp
    refine ⟨.inr (by omega), .inr (by omega), ⟨by omega, by omega⟩, ht, ?_⟩
    generalize (b * 39373 + 7) % 2147483647 = c at c0 c1 ⊢
    have c2 : 0 ≤ c * c % 2147483629 / 32 := Int.ediv_nonneg (Int.emod_nonneg _ (by omega)) (by omega)
    obtain ⟨r, hr, er⟩ := mod_nD ht c2
    rw [er]
    exact h r 0 c hr ⟨by omega, c0, c1⟩
def p_Lone : DR1 := fun s ds k => ∃ l a b, ∃ d, ∃ xs : List PyData, s = .lst l [.int a, .int b] ∧ ds = [d] ∧ items d = some xs ∧ Src a b ∧ xs ≠ [] ∧ xs.length ≤ 1000 ∧ ∀ x ∈ xs, ∀ a' b', Src a' b' → k x (.lst l [.int a', .int b'])
theorem r_Lone : ∀ s ds kk, p_Lone s ds kk → d__law_one p_Ltake (fin1 s kk) (env0 2 (s :: ds.map .dat)) := by
  rintro s ds kk ⟨l, a, b, d, xs, rfl, rfl, hi, hs, hne, hl, h⟩
  have hpos : 0 < xs.length := List.length_pos_iff.mpr hne
  simp [d__law_one, env0, ends1, Slot.ads, hi]
  simp [p_Ltake]
  refine ⟨hs, hpos, hl, fun r a' b' hr hs' => ⟨xs[r], by rw [List.getElem?_eq_getElem hr], h _ (List.getElem_mem hr) a' b' hs'⟩⟩
def p_Lmixed : DR1 := fun s ds k => ∃ l a b, ∃ xs : List PyData, s = .lst l [.int a, .int b] ∧ ds = [.list xs] ∧ Src a b ∧ xs.length ≤ 1000 ∧ ∀ ys, ys.Perm xs → ∀ a' b', Src a' b' → k (.list ys) (.lst l [.int a', .int b'])
theorem perm_erase {α : Type} : ∀ (l : List α) (i : Nat) (x : α), l[i]? = some x → (x :: l.eraseIdx i).Perm l
  | [], i, x, h => by simp at h
  | a :: l, 0, x, h => by
    simp at h
    subst h
    exact List.Perm.refl _
  | a :: l, i + 1, x, h => by
    have := perm_erase l i x (by simpa using h)
    rw [List.eraseIdx_cons_succ]
    exact (List.Perm.swap a x _).trans (this.cons a)
theorem r_Lmixed : ∀ s ds kk, p_Lmixed s ds kk → d__law_mixed p_Ltake (fin1 s kk) (env0 5 (s :: ds.map .dat)) := by
  rintro s ds kk ⟨l, a, b, xs, rfl, rfl, hs, hl, h⟩
  simp [d__law_mixed, env0, ends1, Slot.ads, dListF]
  intro l2 l3
  refine ⟨by omega, ?_⟩
  obtain ⟨W, hW⟩ := opq fun i ρ => ∃ (a b : Int) (left found : List PyData) (s4 : Slot), i ≤ xs.length ∧ ρ = [.lst l [.int a, .int b], .dat (.list xs), .lst l2 left, .lst l3 found, s4] ∧ Src a b ∧ (left ++ found).Perm xs ∧ left.length = xs.length - i
  refine forOf_ints (n := xs.length) W ((hW _ _).mpr ⟨a, b, xs, [], .no, by omega, rfl, hs, by simp, by simp⟩) ?_ ?_
  · intro i ρ' hi w
    obtain ⟨a, b, left, found, s4, hi', rfl, hs, hp, hle⟩ := (hW _ _).mp w
    have hpl := hp.length_eq
    rw [List.length_append] at hpl
    simp
    simp [p_Ltake]
    refine ⟨by simp [Slot.ads], hs, by omega, by omega, fun r a' b' hr hs' => ?_⟩
    have hr' : left[r]? = some left[r] := List.getElem?_eq_getElem hr
    refine ⟨by omega, left[r], hr', by omega, (hW _ _).mpr ⟨a', b', left.eraseIdx r, found ++ [left[r]], .dat (nD i), by omega, by simp, hs', ?_, ?_⟩⟩
    · refine List.Perm.trans ?_ hp
      have h1 := perm_erase left r left[r] hr'
      have h2 : (left.eraseIdx r ++ (found ++ [left[r]])).Perm ((left[r] :: left.eraseIdx r) ++ found) := by
        rw [← List.append_assoc]
        refine (List.perm_append_comm).trans ?_
        simp
      exact h2.trans (h1.append_right found)
    · rw [List.length_eraseIdx, if_pos hr]
      omega
  · intro ρ' w
    obtain ⟨a, b, left, found, s4, hi', rfl, hs, hp, hle⟩ := (hW _ _).mp w
    have : left = [] := by
      cases left with
      | nil => rfl
      | cons c r =>
        simp at hle
    subst this
    simp
    exact h found (by simpa using hp) a b hs
end DL
end
section
set_option Elab.async false
set_option maxRecDepth 100000
set_option linter.all false
namespace DL
open PySem L2 L2.DC L2.GD MM
def p_Lpool : DRF := fun ds k => ∃ ns : List Int, ds = [scrD ns, .int 0] ∧ ∀ l a b, Src a b → k (.lst l [.int a, .int b])
def IxScr (d : PyData) (i : Int) (k : PyData → Prop) : Prop := dIxScr d (.int i) k
@[simp] theorem scrD_inj' {a b : List Int} : scrD a = scrD b ↔ a = b := ⟨scr_inj, fun h => by rw [h]⟩
theorem r_Lpool : ∀ ds kk, p_Lpool ds kk → d__law_pool { nx := fun _ => False, rt := fun _ _ => False, rf := fun s _ => kk s } (env0 5 (ds.map .dat)) := by
  rintro ds kk ⟨ns, rfl, h⟩
  have m0 : ∀ z : Int, 0 ≤ z % 2147483647 := fun z => Int.emod_nonneg _ (by omega)
  have m1 : ∀ z : Int, z % 2147483647 < 2147483647 := fun z => Int.emod_lt_of_pos _ (by omega)
  cases ns with
  | nil =>
    simp [d__law_pool, env0, dLenScr, dNeScr, dIxScr, dRetF]
    refine ⟨.inr (by omega), .inr (by omega), .inr (by omega), .inr (by omega), ⟨by omega, by omega, by decide⟩, .inr (by omega), fun l => h l _ _ ⟨by omega, by omega, by omega⟩⟩
  | cons c r =>
    simp [d__law_pool, env0, dLenScr, dNeScr, dIxScr]
    have hb : 0 ≤ (if c < -1 - c then -1 - c else c) := by split <;> omega
    generalize (if c < -1 - c then -1 - c else c) = big at hb ⊢
    have m2 := m0 ((big % 2147483629 + 17) * 48271)
    have m3 := m1 ((big % 2147483629 + 17) * 48271)
    generalize (big % 2147483629 + 17) * 48271 % 2147483647 = mix at m2 m3 ⊢
    refine ⟨.inr (by omega), .inr (by omega), .inr (by omega), .inr (by omega), ?_⟩
    simp [dRetF, dLenScr]
    refine ⟨⟨by omega, by omega, by decide⟩, ?_⟩
    have m4 : ∀ P Q : Prop, ((r.length : Int) + 1 ≤ 0 ∧ P ∨ Q) = Q := fun P Q => propext ⟨fun h => h.resolve_left fun h => by omega, .inr⟩
    by_cases hc : big < 1000000000000000000
    · refine .inl ⟨hc, .inr (by omega), fun l => h l _ _ ⟨by omega, m2, m3⟩⟩
    · refine .inr ⟨by omega, ?_⟩
      rw [m4]
      exact ⟨.inr (by omega), fun l => h l _ _ ⟨hb, m2, m3⟩⟩
def p_Lsaying : DR1 := fun s ds k => ∃ l a b R f, s = .lst l [.int a, .int b] ∧ ds = [lotD R, forestD f] ∧ Src a b ∧ ROk R ∧ 2 ≤ R.length ∧ Good R f ∧ ∀ sy : Say, sy.1 < R.length → sy.2.1 < R.length → sy.1 ≠ sy.2.1 → ∀ a' b', Src a' b' → k (sayD sy) (.lst l [.int a', .int b'])
theorem r_Lsaying : ∀ s ds kk, p_Lsaying s ds kk → d__law_saying p_Ltake p_Lstanding p_Levery (fin1 s kk) (env0 10 (s :: ds.map .dat)) := by
  rintro s ds kk ⟨l, a, b, R, f, rfl, rfl, hs, hR, h2, g, h⟩
  have hl := hR.len
  have hf := g.len
  have ec : ((R.length : Int) - 1) = ((R.length - 1 : Nat) : Int) := by omega
  simp [d__law_saying, env0, ends1, Slot.ads]
  simp [p_Ltake]
  refine ⟨hs, by omega, by omega, fun x a1 b1 hx hs1 => ?_⟩
  refine ⟨R.length - 1, by omega, hs1, by omega, by omega, fun y a2 b2 hy hs2 => ⟨by omega, ?_⟩⟩
  have ey : ((x : Int) + 1 + (y : Int)) % (R.length : Int) = (((x + 1 + y) % R.length : Nat) : Int) := by
    rw [show ((x : Int) + 1 + (y : Int)) = ((x + 1 + y : Nat) : Int) by omega]
    rfl
  have hyl : (x + 1 + y) % R.length < R.length := Nat.mod_lt _ (by omega)
  have hne : x ≠ (x + 1 + y) % R.length := by
    intro e
    by_cases hlt : x + 1 + y < R.length
    · rw [Nat.mod_eq_of_lt hlt] at e
      omega
    · have : (x + 1 + y) % R.length = x + 1 + y - R.length := by
        rw [Nat.mod_eq_sub_mod (by omega), Nat.mod_eq_of_lt (by omega)]
      omega
  rw [ey]
  generalize hyy : (x + 1 + y) % R.length = z at hyl hne ⊢
  simp [p_Lstanding]
  refine ⟨Good.wf g, by omega, by omega, by omega, 12, rfl, hs2, by omega, by omega, fun c a3 b3 hc hs3 l2 => ?_⟩
  simp [p_Levery]
  refine ⟨hR, by omega, by omega, ?_⟩
  have hal := allSd_len hR (x := x) (y := z) (by omega) hyl
  obtain ⟨W, hW⟩ := opq fun i ρ => ∃ (a b : Int) (lot : List Sd) (s8 s9 : Slot), ρ = [.lst l [.int a, .int b], .dat (lotD R), .dat (forestD f), .dat (nD x), .dat (nD z), .dat (sdD (stand f x z)), .dat (.bool (decide (0 < c))), .lst l2 (lot.map sdD), s8, s9] ∧ Src a b ∧ lot.length ≤ i ∧ i ≤ 9
  have put : ∀ (a b : Int) (lot : List Sd) (s8 s9 : Slot) (i : Nat), Src a b → lot.length ≤ i → i ≤ 9 → W i [.lst l [.int a, .int b], .dat (lotD R), .dat (forestD f), .dat (nD x), .dat (nD z), .dat (sdD (stand f x z)), .dat (.bool (decide (0 < c))), .lst l2 (lot.map sdD), s8, s9] := fun a b lot s8 s9 i h1 h2 h3 => (hW _ _).mpr ⟨a, b, lot, s8, s9, rfl, h1, h2, h3⟩
  refine forOf_map (allSd R x z) sdD W (put a3 b3 [] .no .no 0 hs3 (by simp) (by omega)) ?_ ?_
  · intro i s ρ' hsi w
    obtain ⟨a, b, lot, s8, s9, rfl, hs4, hll, h9⟩ := (hW _ _).mp w
    have hi := (List.getElem?_eq_some_iff.mp hsi).1
    have both : ∀ a' b' s9, Src a' b' → W (i + 1) [.lst l [.int a', .int b'], .dat (lotD R), .dat (forestD f), .dat (nD x), .dat (nD z), .dat (sdD (stand f x z)), .dat (.bool (decide (0 < c))), .lst l2 (lot.map sdD), .dat (sdD s), s9] ∧
        W (i + 1) [.lst l [.int a', .int b'], .dat (lotD R), .dat (forestD f), .dat (nD x), .dat (nD z), .dat (sdD (stand f x z)), .dat (.bool (decide (0 < c))), .lst l2 (lot.map sdD ++ [sdD s]), .dat (sdD s), s9] := fun a' b' s9 h1 =>
      ⟨put a' b' lot _ s9 (i + 1) h1 (by omega) (by omega), by
        have := put a' b' (lot ++ [s]) (.dat (sdD s)) s9 (i + 1) h1 (by simp; omega) (by omega)
        simpa using this⟩
    have hlt : lot.length < 1000000 := by omega
    by_cases hw : sdW s = "apart"
    · simp [hw, p_Ltake]
      refine ⟨by simp [Slot.ads], 6, by rfl, hs4, by omega, by omega, fun r a' b' hr hs5 => ?_⟩
      obtain ⟨q1, q2⟩ := both a' b' (.dat (.int 6)) hs5
      split
      · exact ⟨hlt, q2⟩
      · by_cases hk : c = 0
        · exact .inl ⟨hk, q1⟩
        · refine .inr ⟨by omega, ?_⟩
          split
          · exact ⟨hlt, q2⟩
          · exact q1
    · simp [hw, p_Ltake]
      refine ⟨by simp [Slot.ads], hs4, fun r a' b' hr hs5 => ?_⟩
      obtain ⟨q1, q2⟩ := both a' b' (.dat (.int 2)) hs5
      split
      · exact ⟨hlt, q2⟩
      · by_cases hk : c = 0
        · exact .inl ⟨hk, q1⟩
        · refine .inr ⟨by omega, ?_⟩
          split
          · exact ⟨hlt, q2⟩
          · exact q1
  · intro ρ' w
    obtain ⟨a, b, lot, s8, s9, rfl, hs4, hll, h9⟩ := (hW _ _).mp w
    simp
    exact h (x, z, lot) (by show x < R.length; omega) hyl hne a b hs4
end DL
end
section
set_option Elab.async false
set_option maxRecDepth 100000
set_option linter.all false
namespace DL
open PySem L2 L2.DC L2.GD MM
def p_Lkept_saying : DR1 := fun s ds k => ∃ l a b R f, s = .lst l [.int a, .int b] ∧ ds = [lotD R, forestD f] ∧ Src a b ∧ ROk R ∧ 2 ≤ R.length ∧ Good R f ∧ ∀ sy : Say, SayOk R sy → stand f sy.1 sy.2.1 ∈ sy.2.2 → ∀ a' b', Src a' b' → k (sayD sy) (.lst l [.int a', .int b'])
theorem allSd_mem {R : List Nat} {f : Forest} (g : Good R f) {x y : Nat} (hx : x < R.length) (hy : y < R.length) : stand f x y ∈ allSd R x y := by
  unfold allSd
  by_cases h1 : y ∈ arnd f x
  · obtain ⟨j, h⟩ := mem_arnd.mp h1
    rw [stand_inn g h]
    have := climb_room g h
    simp at this
    simp [this]
  · by_cases h2 : x ∈ arnd f y
    · obtain ⟨j, h⟩ := mem_arnd.mp h2
      rw [stand_aro g h]
      have := climb_room g h
      simp at this
      simp [this]
    · rw [stand_apart g h1 h2]
      exact List.mem_cons_self
theorem r_Lkept_saying : ∀ s ds kk, p_Lkept_saying s ds kk → d__law_kept_saying p_Lsaying p_Lstanding p_Levery (fin1 s kk) (env0 8 (s :: ds.map .dat)) := by
  rintro s ds kk ⟨l, a, b, R, f, rfl, rfl, hs, hR, h2, g, h⟩
  have hl := hR.len
  have hf := g.len
  simp [d__law_kept_saying, env0, ends1, Slot.ads]
  simp [p_Lsaying, -Prod.exists, -Prod.forall]
  refine ⟨hs, hR, h2, g, fun sy h1 h3 h4 a1 b1 hs1 => ?_⟩
  obtain ⟨x, y, lot⟩ := sy
  simp [p_Lstanding]
  refine ⟨Good.wf g, by omega, by rw [hf]; exact h1, by rw [hf]; exact h3, ?_⟩
  simp [p_Levery]
  have hal := allSd_len hR (x := x) (y := y) h1 h3
  refine ⟨hR, h1, h3, lcOf_map (allSd R x y) sdD (fun t => decide (t ∈ lot) || decide (t = stand f x y)) sdD (by omega) (by simp [Slot.ads]) (by simp) (fun t ht Y N hY hN => ?_) fun l2 => ?_⟩
  · by_cases e1 : t ∈ lot
    · simp [wipeD, e1]
      exact hY _ (by simp [wipeD]) (by simp [e1])
    · by_cases e2 : t = stand f x y
      · subst e2
        simp [wipeD, e1]
        exact hY _ (by simp [wipeD]) (by simp)
      · simp [wipeD, e1, e2]
        exact hN _ (by simp [wipeD]) (by simp [e1, e2])
  · have hmem := allSd_mem g h1 h3
    simp
    have := h (x, y, (allSd R x y).filter fun t => decide (t ∈ lot) || decide (t = stand f x y)) ⟨h1, h3, h4, List.filter_sublist⟩ (List.mem_filter.mpr ⟨hmem, by simp⟩) a1 b1 hs1
    simpa [sayD, letsD] using this
theorem perm_map_inv {α β : Type} (f : α → β) (g : β → α) (hg : ∀ a, g (f a) = a) {ys : List β} {l : List α} (h : ys.Perm (l.map f)) : ∃ l' : List α, ys = l'.map f ∧ l'.Perm l := by
  refine ⟨ys.map g, ?_, ?_⟩
  · rw [List.map_map]
    conv => lhs; rw [← List.map_id ys]
    apply List.map_congr_left
    intro y hy
    obtain ⟨a, _, rfl⟩ := List.mem_map.mp (h.subset hy)
    simp [hg]
  · have := h.map g
    rw [List.map_map] at this
    have e : l.map (g ∘ f) = l := by
      conv => rhs; rw [← List.map_id l]
      apply List.map_congr_left
      intro a _
      simp [hg]
    rwa [e] at this
/-- each thing under one that comes ahead of it -/
structure Grown (R : List Nat) (ord : List Nat) (m : Nat) (f : Forest) : Prop where
  len : f.length = R.length
  pl : ∀ x h r, up f x = some (h, r) → ∃ i j, j < i ∧ i < m ∧ ord[i]? = some x ∧ ord[j]? = some h ∧ r < R.getD h 0
theorem Grown.good {R ord : List Nat} {f : Forest} (g : Grown R ord R.length f) (hp : ord.Perm (List.range R.length)) : Good R f := by
  have nd : ord.Nodup := (hp.nodup_iff).mpr List.nodup_range
  have key : ∀ (i x : Nat), ord[i]? = some x → Hangs f x := by
    intro i
    induction i using Nat.strongRecOn with
    | ind i ih =>
      intro x hx
      cases e : up f x with
      | none => exact .floor e
      | some p =>
        obtain ⟨h, r⟩ := p
        obtain ⟨i', j, h1, h2, h3, h4, h5⟩ := g.pl x h r e
        have : i' = i := by
          obtain ⟨a1, a2⟩ := List.getElem?_eq_some_iff.mp h3
          obtain ⟨b1, b2⟩ := List.getElem?_eq_some_iff.mp hx
          exact (List.getElem_inj nd).mp (a2.trans b2.symm)
        subst this
        exact .on e (ih j h1 h h4)
  refine ⟨g.len, fun x h r e => ?_, fun x hx => ?_⟩
  · obtain ⟨i, j, h1, h2, h3, h4, h5⟩ := g.pl x h r e
    refine ⟨?_, fun ee => ?_, h5⟩
    · have := hp.subset (List.mem_of_getElem? h4)
      simpa using this
    · subst ee
      obtain ⟨a1, a2⟩ := List.getElem?_eq_some_iff.mp h3
      obtain ⟨b1, b2⟩ := List.getElem?_eq_some_iff.mp h4
      have := (List.getElem_inj nd).mp (a2.trans b2.symm)
      omega
  · have : x ∈ ord := hp.symm.subset (by simpa using hx)
    obtain ⟨i, hi⟩ := List.getElem?_of_mem this
    exact key i x hi
theorem up_set {f : Forest} {x y : Nat} {p : Plc} (hx : x < f.length) : up (f.set x p) y = if y = x then p else up f y := by
  unfold up
  rw [List.getD_eq_getElem?_getD, List.getD_eq_getElem?_getD, List.getElem?_set]
  by_cases h : x = y
  · subst h
    simp [hx]
  · have : ¬ y = x := fun e => h e.symm
    simp [h, this]
def p_Lgrown : DR1 := fun s ds k => ∃ l a b R, s = .lst l [.int a, .int b] ∧ ds = [lotD R] ∧ Src a b ∧ ROk R ∧ ∀ f, Good R f → ∀ a' b', Src a' b' → k (forestD f) (.lst l [.int a', .int b'])
theorem r_Lgrown : ∀ s ds kk, p_Lgrown s ds kk → d__law_grown p_Lmixed p_Ltake p_Lone (fin1 s kk) (env0 9 (s :: ds.map .dat)) := by
  rintro s ds kk ⟨l, a, b, R, rfl, rfl, hs, hR, h⟩
  have hl := hR.len
  simp [d__law_grown, env0, ends1]
  refine ⟨by simp [Slot.ads], by omega, ?_⟩
  rw [intsD_eq]
  refine lcOf_all _ nD nD (by simp; omega) (by simp [Slot.ads]) (by simp) (fun x hx Y hY => ?_) fun l1 => ?_
  · simp [wipeD]
    exact hY _ (by simp [wipeD])
  simp [p_Lmixed]
  refine ⟨by simp [Slot.ads], hs, by omega, fun ys hys a1 b1 hs1 => ?_⟩
  obtain ⟨ord, rfl, hord⟩ := perm_map_inv nD nOf nOf_nD hys
  have hol : ord.length = R.length := by have := hord.length_eq; simpa using this
  refine ⟨by omega, ?_⟩
  rw [intsD_eq]
  refine lcOf_all _ nD (fun _ => placeD none) (by simp; omega) (by simp [Slot.ads]) (by simp) (fun x hx Y hY => ?_) fun l2 => ?_
  · simp [wipeD]
    exact hY _ (by simp [wipeD])
  simp
  have f0 : (List.range R.length).map (fun _ => placeD none) = ((List.range R.length).map fun _ => (none : Plc)).map placeD := by rw [List.map_map]; rfl
  rw [f0]
  refine ⟨by omega, ?_⟩
  obtain ⟨W, hW⟩ := opq fun i ρ => ∃ (a b : Int) (f : Forest) (s4 s5 s6 : Slot), ρ = [.lst l [.int a, .int b], .dat (lotD R), .dat (lotL ord), .lst l2 (f.map placeD), s4, s5, s6, .no, .no] ∧ Src a b ∧ Grown R ord i f
  have g0 : Grown R ord 0 ((List.range R.length).map fun _ => (none : Plc)) := ⟨by simp, fun x h r e => by
    unfold up at e
    rw [List.getD_eq_getElem?_getD, List.getElem?_map] at e
    cases e2 : (List.range R.length)[x]? with
    | none => rw [e2] at e; cases e
    | some y => rw [e2] at e; cases e⟩
  refine forOf_ints (n := ord.length) W ((hW _ _).mpr ⟨a1, b1, _, .no, .no, .no, rfl, hs1, g0⟩) ?_ ?_
  · intro i ρ' hi w
    obtain ⟨a2, b2, f, s4, s5, s6, rfl, hs2, g⟩ := (hW _ _).mp w
    have go : Grown R ord (i + 1) f := ⟨g.len, fun x h r e => by
      obtain ⟨i', j, h1, h2, h3⟩ := g.pl x h r e
      exact ⟨i', j, h1, by omega, h3⟩⟩
    have hoi : ord[i]? = some ord[i] := List.getElem?_eq_getElem hi
    have hor : ∀ y ∈ ord, y < R.length := fun y hy => by simpa using hord.subset hy
    simp
    have et : (ord.map nD).take i = (ord.take i).map nD := List.map_take.symm
    rw [et]
    refine lcOf_map (ord.take i) nD (fun y => decide (0 < R.getD y 0)) nD (by simp; omega) (by simp [Slot.ads]) (by simp) (fun y hy Y N hY hN => ?_) fun l3 => ?_
    · have hyl := hor y (List.mem_of_mem_take hy)
      have e1 := getI' hyl
      by_cases e : 0 < R[y]
      · simp [wipeD, hyl]
        refine .inr ⟨e, ?_⟩
        exact hY _ (by simp [wipeD]) (by rw [e1]; simpa using e)
      · have e2 : R[y] = 0 := by omega
        simp [wipeD, hyl]
        refine .inl ⟨e2, ?_⟩
        exact hN _ (by simp [wipeD]) (by rw [e1]; simp [e2])
    · generalize hso : (ord.take i).filter (fun y => decide (0 < R.getD y 0)) = so
      have hsl : so.length ≤ 24 := by
        rw [← hso]
        have := List.length_filter_le (fun y => decide (0 < R.getD y 0)) (ord.take i)
        simp at this ⊢
        omega
      have hsm : ∀ h ∈ so, (∃ j, j < i ∧ ord[j]? = some h) ∧ 0 < R.getD h 0 := fun h hh => by
        rw [← hso] at hh
        obtain ⟨h1, h2⟩ := List.mem_filter.mp hh
        obtain ⟨j, hj⟩ := List.getElem?_of_mem h1
        rw [List.getElem?_take] at hj
        split at hj
        · exact ⟨⟨j, by assumption, hj⟩, by simpa using h2⟩
        · cases hj
      by_cases hse : so = []
      · subst hse
        simp [PyData.eqv, PyData.eqvAll]
        exact (hW _ _).mpr ⟨a2, b2, f, _, _, _, rfl, hs2, go⟩
      · simp [hse, p_Ltake]
        refine ⟨by simp [Slot.ads], 4, rfl, hs2, by omega, by omega, fun r a' b' hr hs3 => ?_⟩
        by_cases hr0 : r = 0
        · exact .inl ⟨hr0, (hW _ _).mpr ⟨a', b', f, _, _, _, rfl, hs3, go⟩⟩
        · refine .inr ⟨by omega, by simp [Slot.ads], l, a', b', _, so.map nD, rfl, rfl, rfl, hs3, by simpa using hse, by simp; omega, fun x hx a4 b4 hs4 => ?_⟩
          obtain ⟨hh, hhm, rfl⟩ := List.mem_map.mp hx
          obtain ⟨⟨j, hj1, hj2⟩, hpos⟩ := hsm hh hhm
          have hhl : hh < R.length := hor hh (List.mem_of_getElem? hj2)
          have h4 := rmost hR hhl
          rw [getI' hhl] at hpos
          refine ⟨by simp [Slot.ads], nD R[hh], hh, rfl, ⟨_, List.getElem?_eq_getElem hhl, rfl⟩, by simp [Slot.ads], l, a4, b4, rfl, R[hh], rfl, hs4, hpos, by omega, fun r2 a5 b5 hr2 hs5 => ?_⟩
          have hoil : ord[i] < f.length := by rw [g.len]; exact hor _ (List.getElem_mem hi)
          refine ⟨nD ord[i], ⟨_, hoi, rfl⟩, l2, _, ord[i], rfl, rfl, rfl, by simpa using hoil, (hW _ _).mpr ⟨a5, b5, f.set ord[i] (some (hh, r2)), .dat (nD i), .dat (.list (so.map nD)), .dat (nD hh), ?_, hs5, ⟨by rw [List.length_set]; exact g.len, fun x h r e => ?_⟩⟩⟩
          · rw [List.map_set]
            rfl
          · rw [up_set hoil] at e
            by_cases hx : x = ord[i]
            · rw [if_pos hx] at e
              cases e
              refine ⟨i, j, hj1, by omega, by rw [hx]; exact hoi, hj2, by rw [getI' hhl]; exact hr2⟩
            · rw [if_neg hx] at e
              obtain ⟨i', j', h1, h2, h3⟩ := g.pl x h r e
              exact ⟨i', j', h1, by omega, h3⟩
  · intro ρ' w
    obtain ⟨a2, b2, f, s4, s5, s6, rfl, hs2, g⟩ := (hW _ _).mp w
    simp [Slot.ads]
    exact h f ((hol ▸ g).good hord) a2 b2 hs2
end DL
end
section
set_option Elab.async false
set_option maxRecDepth 100000
set_option linter.all false
namespace DL
open PySem L2 L2.DC L2.GD MM
def p_Ldeeds : DRn := fun ds k => ∃ R L f, ds = [lotD R, tD' R.length L, forestD f] ∧ ROk R ∧ Good R f ∧ k (deedsL (lawDeeds R L f))
theorem turnsAt_len {R : List Nat} (hR : ROk R) {L : Tab} {f : Forest} (g : Good R f) {x : Nat} (hx : x < R.length) : (turnsAt R L f x).length ≤ 4 ∧ (shiftsAt R L f x).length ≤ 4 := by
  unfold turnsAt shiftsAt
  cases e : up f x with
  | none => simp
  | some p =>
    obtain ⟨h, r⟩ := p
    have hh := g.lt e
    have h1 := over_len hR (L := L) hx (part := hPart L f x h)
    have h2 := over_len hR (L := L) hh (part := beneath f x)
    have h3 := List.length_filter_le (fun j => decide (j ≠ r)) (over R L h (beneath f x))
    refine ⟨?_, ?_⟩
    · simp only
      split
      · rw [List.length_map]; exact h1
      · simp
    · simp only [List.length_map]
      omega
theorem beneath_noHold {R : List Nat} {f : Forest} (g : Good R f) {x hh r : Nat} (o : On f x hh r) : ∀ c ∈ beneath f x, c < R.length ∧ c ≠ hh := fun c hc => by
  obtain ⟨c1, c2⟩ := (mem_beneath g).mp hc
  refine ⟨c1, fun e => ?_⟩
  subst e
  have h3 := arnd_some g o
  rcases c2 with rfl | c2
  · exact (on_beneath g o).2.2.2.2 rfl
  · exact g.notArnd x (by rw [h3]; exact List.mem_cons_of_mem _ c2)
theorem flat_len {α : Type} {g : Nat → List α} : ∀ (l : List Nat), (∀ x ∈ l, (g x).length ≤ 4) → (l.flatMap g).length ≤ 4 * l.length
  | [], _ => by simp
  | a :: l, h => by
    have h1 := h a List.mem_cons_self
    have h2 := flat_len l fun x hx => h x (List.mem_cons_of_mem _ hx)
    rw [List.flatMap_cons, List.length_append, List.length_cons]
    omega
theorem r_Ldeeds : ∀ ds kk, p_Ldeeds ds kk → d__law_deeds p_Lbeneath p_Lfree p_Lpart_of p_Lless p_Lover (fin kk) (env0 12 (ds.map .dat)) := by
  rintro ds kk ⟨R, L, f, rfl, hR, g, h⟩
  have hl := hR.len
  have hf := g.len
  simp [d__law_deeds, env0]
  intro l1 l2
  refine ⟨by omega, ?_⟩
  obtain ⟨W, hW⟩ := opq fun i ρ => ∃ (s5 s6 s7 s8 s9 s10 : Slot), ρ = [.dat (lotD R), .dat (tD' R.length L), .dat (forestD f), .lst l1 (((List.range i).flatMap (turnsAt R L f)).map deedD), .lst l2 (((List.range i).flatMap (shiftsAt R L f)).map deedD), s5, s6, s7, s8, s9, s10, .no]
  have len1 : ∀ i ≤ f.length, ((List.range i).flatMap (turnsAt R L f)).length ≤ 96 ∧ ((List.range i).flatMap (shiftsAt R L f)).length ≤ 96 := fun i hi => by
    have hxl : ∀ x ∈ List.range i, x < R.length := fun x hx => by
      have : x < i := by simpa using hx
      omega
    have a1 := flat_len (g := turnsAt R L f) (List.range i) fun x hx => (turnsAt_len hR (L := L) g (hxl x hx)).1
    have a2 := flat_len (g := shiftsAt R L f) (List.range i) fun x hx => (turnsAt_len hR (L := L) g (hxl x hx)).2
    rw [List.length_range] at a1 a2
    omega
  refine forOf_ints (n := f.length) W ((hW _ _).mpr ⟨.no, .no, .no, .no, .no, .no, by simp⟩) ?_ ?_
  · intro i ρ' hi w
    obtain ⟨s5, s6, s7, s8, s9, s10, rfl⟩ := (hW _ _).mp w
    obtain ⟨n1, n2⟩ := len1 i (by omega)
    have tk1 : (List.range (i + 1)).flatMap (turnsAt R L f) = (List.range i).flatMap (turnsAt R L f) ++ turnsAt R L f i := by rw [List.range_succ, List.flatMap_append]; simp
    have tk2 : (List.range (i + 1)).flatMap (shiftsAt R L f) = (List.range i).flatMap (shiftsAt R L f) ++ shiftsAt R L f i := by rw [List.range_succ, List.flatMap_append]; simp
    generalize (List.range i).flatMap (turnsAt R L f) = T at n1 tk1 ⊢
    generalize (List.range i).flatMap (shiftsAt R L f) = S at n2 tk2 ⊢
    simp
    refine ⟨placeD (up f i), ⟨_, getP hi, rfl⟩, ?_⟩
    cases e : up f i with
    | none =>
      simp
      refine (hW _ _).mpr ⟨.dat (nD i), s6, s7, s8, s9, s10, ?_⟩
      rw [tk1, tk2]
      unfold turnsAt shiftsAt
      rw [e]
      simp
    | some p =>
      obtain ⟨hh, r⟩ := p
      have o : On f i hh r := e
      obtain ⟨b1, b2, b3, b4, b5⟩ := on_beneath g o
      have bl := (beneath_ok g (x := hh)).len
      have bl2 := (beneath_ok g (x := i)).len
      obtain ⟨q1, q2, q3⟩ := hPart_ok (L := L) g o
      simp
      refine ⟨placeD (some (hh, r)), ⟨up f i, getP hi, by rw [e]⟩, ?_⟩
      simp [p_Lbeneath]
      refine ⟨R, g, hl, b3, ?_⟩
      simp [p_Lfree]
      refine ⟨R, L, _, .inl ⟨rfl, rfl, rfl⟩, hR, beneath_ok g, ?_⟩
      have ef : (i ∈ freeIn R L (beneath f hh)) = (isFree R L (beneath f hh) i = true) := propext ⟨fun h => (List.mem_filter.mp h).2, fun h => List.mem_filter.mpr ⟨b1, h⟩⟩
      simp [ef]
      have hb := beneath_noHold g o
      have o4 := over_len hR (L := L) b3 (part := beneath f i)
      have o5 := over_len hR (L := L) b4 (part := hPart L f i hh)
      have q4 := q1.len
      split
      · rename_i hfree
        simp [p_Lless]
        refine ⟨_, _, .inl ⟨rfl, rfl⟩, by omega, ?_⟩
        simp [p_Lpart_of]
        refine ⟨R.length, L, rfl, hl, (beneath_ok g).less i, List.mem_filter.mpr ⟨b2, by simpa using b5⟩, ?_⟩
        have eh : partW L (less (beneath f hh) i) hh = hPart L f i hh := rfl
        rw [eh]
        simp [p_Lover]
        refine ⟨R, L, i, hPart L f i hh, .inr ⟨rfl, rfl, rfl, rfl⟩, hR, b4, q2, by omega, ?_⟩
        refine lcOf_all (over R L i (hPart L f i hh)) nD (fun j => deedD (true, i, j)) (by omega) (by simp [Slot.ads]) (by simp) (fun j hj Y hY => ?_) fun l3 => ?_
        · simp [wipeD]
          exact hY _ (by simp [wipeD])
        · have e4 : turnsAt R L f i = (over R L i (hPart L f i hh)).map fun j => (true, i, j) := by unfold turnsAt; rw [e]; simp [hfree]
          have e5 : (fun j => deedD (true, i, j)) = deedD ∘ fun j => (true, i, j) := rfl
          rw [e5, ← List.map_map, ← e4]
          have n5 : (turnsAt R L f i).length ≤ 4 := (turnsAt_len hR (L := L) g b4).1
          simp [-List.map_map]
          refine ⟨by omega, ?_⟩
          refine ⟨R, g, hl, b4, R, L, hh, beneath f i, .inl ⟨rfl, rfl, rfl, rfl⟩, hR, b3, hb, by omega, ?_⟩
          refine lcOf_map (over R L hh (beneath f i)) nD (fun j => decide (j ≠ r)) (fun j => deedD (false, i, j)) (by omega) (by simp [Slot.ads]) (by simp) (fun j hj Y N hY hN => ?_) fun l3 => ?_
          · by_cases e3 : j = r <;> simp [wipeD, e3]
            · exact hN _ (by simp [wipeD]) (by simpa)
            · exact hY _ (by simp [wipeD]) (by simpa)
          · have e4 : shiftsAt R L f i = ((over R L hh (beneath f i)).filter fun j => decide (j ≠ r)).map fun j => (false, i, j) := by unfold shiftsAt; rw [e]
            have n3 := List.length_filter_le (fun j => decide (j ≠ r)) (over R L hh (beneath f i))
            have e5 : (fun j => deedD (false, i, j)) = deedD ∘ fun j => (false, i, j) := rfl
            rw [e5, ← List.map_map, ← e4]
            have n4 : (shiftsAt R L f i).length ≤ 4 := (turnsAt_len hR (L := L) g b4).2
            simp [-List.map_map]
            refine ⟨by omega, (hW _ _).mpr ⟨.dat (nD i), .dat (nD hh), .dat (nD r), .dat (lotL (beneath f hh)), .dat (lotD (hPart L f i hh)), .dat (lotL (over R L hh (beneath f i))), ?_⟩⟩
            rw [tk1, tk2]
            simp
      · rename_i hfree
        have e6 : turnsAt R L f i = [] := by unfold turnsAt; rw [e]; simp [hfree]
        refine ⟨R, g, hl, b4, ?_⟩
        simp [p_Lover]
        refine ⟨R, L, hh, beneath f i, .inl ⟨rfl, rfl, rfl, rfl⟩, hR, b3, hb, by omega, ?_⟩
        refine lcOf_map (over R L hh (beneath f i)) nD (fun j => decide (j ≠ r)) (fun j => deedD (false, i, j)) (by omega) (by simp [Slot.ads]) (by simp) (fun j hj Y N hY hN => ?_) fun l3 => ?_
        · by_cases e3 : j = r <;> simp [wipeD, e3]
          · exact hN _ (by simp [wipeD]) (by simpa)
          · exact hY _ (by simp [wipeD]) (by simpa)
        · have e4 : shiftsAt R L f i = ((over R L hh (beneath f i)).filter fun j => decide (j ≠ r)).map fun j => (false, i, j) := by unfold shiftsAt; rw [e]
          have n3 := List.length_filter_le (fun j => decide (j ≠ r)) (over R L hh (beneath f i))
          have e5 : (fun j => deedD (false, i, j)) = deedD ∘ fun j => (false, i, j) := rfl
          rw [e5, ← List.map_map, ← e4]
          have n4 : (shiftsAt R L f i).length ≤ 4 := (turnsAt_len hR (L := L) g b4).2
          simp [-List.map_map]
          refine ⟨by omega, (hW _ _).mpr ⟨.dat (nD i), .dat (nD hh), .dat (nD r), .dat (lotL (beneath f hh)), s9, .dat (lotL (over R L hh (beneath f i))), ?_⟩⟩
          rw [tk1, tk2]
          simp [e6]
  · intro ρ' w
    obtain ⟨s5, s6, s7, s8, s9, s10, rfl⟩ := (hW _ _).mp w
    obtain ⟨n1, n2⟩ := len1 f.length (Nat.le_refl _)
    unfold lawDeeds at h
    generalize (List.range f.length).flatMap (turnsAt R L f) = T at n1 h ⊢
    generalize (List.range f.length).flatMap (shiftsAt R L f) = S at n2 h ⊢
    simp
    refine ⟨by omega, ?_⟩
    simpa [deedsL] using h
end DL
end
section
set_option Elab.async false
set_option maxRecDepth 100000
set_option linter.all false
namespace DL
open PySem L2 L2.DC L2.GD MM
def workD (p : List Nat × Plc) : PyData := .tuple [lotD p.1, placeD p.2]
theorem ok_work {k : Nat} {p : List Nat × Plc} : okD (k + 3) (workD p) := ok_tup fun d hd => by
  rcases List.mem_cons.mp hd with rfl | hd
  · exact ok_lot
  · rw [List.mem_singleton] at hd
    subst hd
    exact ok_place
def p_Lleast_made : DR1 := fun s ds k => ∃ l a b R L g, s = .lst l [.int a, .int b] ∧ ds = [lotD R, tD' R.length L] ∧ Src a b ∧ ROk R ∧ SymT R.length L ∧ Good R g ∧ Keeps R L g ∧ ∀ f, Least R L f → ∀ a' b', Src a' b' → k (forestD f) (.lst l [.int a', .int b'])
theorem r_Lleast_made : ∀ s ds kk, p_Lleast_made s ds kk → d__law_least_made p_Lparts p_Lone p_Lfree p_Lless p_Lover (fin1 s kk) (env0 10 (s :: ds.map .dat)) := by
  rintro s ds kk ⟨l, a, b, R, L, g, rfl, rfl, hs, hR, S, hg, K, h⟩
  have hl := hR.len
  simp [d__law_least_made, env0, ends1]
  refine ⟨by omega, ?_⟩
  rw [intsD_eq]
  refine lcOf_all _ nD (fun _ => placeD none) (by simp; omega) (by simp [Slot.ads]) (by simp) (fun x hx Y hY => ?_) fun l1 => ?_
  · simp [wipeD]
    exact hY _ (by simp [wipeD])
  simp
  refine ⟨by omega, ?_⟩
  rw [intsD_eq]
  refine lcOf_all _ nD nD (by simp; omega) (by simp [Slot.ads]) (by simp) (fun x hx Y hY => ?_) fun l2 => ?_
  · simp [wipeD]
    exact hY _ (by simp [wipeD])
  simp [p_Lparts]
  refine ⟨R.length, L, List.range R.length, .inl ⟨rfl, rfl⟩, hl, ⟨fun x hx => by simpa using hx, List.pairwise_lt_range⟩, ?_⟩
  have hpl := parts_len (L := L) (lot := List.range R.length)
  rw [List.length_range] at hpl
  refine lcOf_all _ lotD (fun p => workD (p, none)) (by omega) (by simp [Slot.ads]) (by simp) (fun p hp Y hY => ?_) fun l3 => ?_
  · simp [wipeD]
    exact hY _ (by simp [wipeD])
  simp
  obtain ⟨W, hW⟩ := opq fun m ρ => ∃ (a b : Int) (f : Forest) (q : List (List Nat × Plc)) (s4 s6 s7 s8 : Slot), ρ = [.lst l [.int a, .int b], .dat (lotD R), .dat (tD' R.length L), .lst l1 (f.map placeD), s4, .lst l3 (q.map workD), s6, s7, s8, .no] ∧ Src a b ∧ Fill R L f q ∧ (∀ p ∈ q, LotOk R.length p.1) ∧ (q.map fun p => p.1.length).sum ≤ R.length ∧ m = (q.map fun p => p.1.length).sum ∧ s4.ads = [] ∧ s6.ads = [] ∧ s7.ads = [] ∧ s8.ads = []
  refine ⟨W, ⟨_, (hW _ _).mpr ⟨a, b, (List.range R.length).map fun _ => none, (parts L (List.range R.length)).map fun p => (p, none), .no, .no, .no, .no, by simp [List.map_map], hs, Fill.start S (by simp), fun p hp => ?_, ?_, rfl, rfl, rfl, rfl, rfl⟩⟩, fun m ρ w => ?_⟩
  · obtain ⟨p, hp2, rfl⟩ := List.mem_map.mp hp
    obtain ⟨s, hs, rfl⟩ := (mem_parts_iff S (fun x hx => List.mem_range.mp hx)).mp hp2
    exact (⟨fun x hx => List.mem_range.mp hx, List.pairwise_lt_range⟩ : LotOk R.length (List.range R.length)).filter _
  · have := parts_sum (L := L) _ (List.range R.length) (Nat.le_refl _)
    rw [List.length_range] at this
    rw [List.map_map]
    exact Nat.le_of_eq this
  obtain ⟨a1, b1, f, q, s4, s6, s7, s8, rfl, hs1, F, hq, hsum, rfl, h4, h6, h7, h8⟩ := (hW _ _).mp w
  clear w
  rcases List.eq_nil_or_concat q with rfl | ⟨q, ⟨P, pl⟩, rfl⟩
  · simp [PyData.eqv, PyData.eqvAll, Slot.ads]
    exact h f (Whole.least S F.done) a1 b1 hs1
  · rw [List.concat_eq_append] at F hq hsum ⊢
    have hP := F.lots (P, pl) (List.mem_append_right _ List.mem_cons_self)
    have hPo : LotOk R.length P := hq (P, pl) (List.mem_append_right _ List.mem_cons_self)
    have e1 := eqv_nil (q ++ [(P, pl)]) workD
    have e2 : (q ++ [(P, pl)]).isEmpty = false := by simp
    have okk : okD 60 (.list ((q ++ [(P, pl)]).map workD)) := ok_mapL (k := 59) (fun p => ok_work) _
    rw [e2] at e1
    simp at e1 okk
    simp [e1, okk]
    simp [workD]
    have hPlen := hPo.len
    have hqlen : (q.map fun p => p.1.length).sum + P.length ≤ R.length := by simpa using hsum
    have hqs : q.length ≤ (q.map fun p => p.1.length).sum := by
      have hne : ∀ p ∈ q, p.1 ≠ [] := fun p hp => (F.lots p (List.mem_append_left _ hp)).2.2
      clear e1 e2 okk F hq hsum hqlen
      induction q with
      | nil => simp
      | cons p q ih =>
        have h1 := ih fun p hp => hne p (List.mem_cons_of_mem _ hp)
        have h2 := List.length_pos_iff.mpr (hne p List.mem_cons_self)
        simp only [List.map_cons, List.sum_cons, List.length_cons]
        omega
    refine ⟨by simp [Slot.ads], R, L, P, .inr rfl, hR, hPo, by simp [Slot.ads], l, a1, b1, lotL (freeIn R L P), (freeIn R L P).map nD, rfl, rfl, rfl, hs1, ?_, ?_, fun x hx a2 b2 hs2 => ?_⟩
    · simpa using free_ne S hg K hP.1 hP.2.1 hP.2.2
    · have := List.length_filter_le (fun t => isFree R L P t) P
      simp [freeIn]
      omega
    obtain ⟨t, ht, rfl⟩ := List.mem_map.mp hx
    obtain ⟨htP, hov⟩ := free_over ht
    have htl := hPo.lt t htP
    have htf : t < f.length := by rw [F.len]; exact htl
    refine ⟨l1, _, t, rfl, rfl, rfl, by simpa using htf, P, t, .inr rfl, by omega, R.length, L, less P t, .inl ⟨rfl, rfl⟩, hl, hPo.less t, ?_⟩
    have hpl2 := parts_len (L := L) (lot := less P t)
    have hlless := (hPo.less t).len
    have hlt : (less P t).length < P.length := by
      have e3 := filter_two (fun x => decide (x ≠ t)) P
      have : 0 < (P.filter fun x => !decide (x ≠ t)).length := List.length_pos_iff.mpr (List.ne_nil_of_mem (List.mem_filter.mpr ⟨htP, by simp⟩))
      unfold less
      omega
    obtain ⟨V, hV⟩ := opq fun i ρ => ∃ (a b : Int) (N : List (List Nat × Plc)) (s8 : Slot), ρ = [.lst l [.int a, .int b], .dat (lotD R), .dat (tD' R.length L), .lst l1 ((f.set t pl).map placeD), .dat (lotD P), .lst l3 ((q ++ N).map workD), .dat (placeD pl), .dat (nD t), s8, .no] ∧ Src a b ∧ N.map (·.1) = (parts L (less P t)).take i ∧ (∀ p ∈ N, ∃ j, j ∈ over R L t p.1 ∧ p.2 = some (t, j)) ∧ s8.ads = []
    refine forOf_map _ lotD V ((hV _ _).mpr ⟨a2, b2, [], s8, by simp [List.map_set], hs2, by simp, fun p hp => (List.not_mem_nil hp).elim, h8⟩) ?_ ?_
    · intro i p ρ' hp v
      obtain ⟨a3, b3, N, s8', rfl, hs3, hN, hNj, h8'⟩ := (hV _ _).mp v
      clear v
      have hpm := List.mem_of_getElem? hp
      have hps := DL.parts_sub hpm
      have hpo := (hPo.less t).sub hps
      have hol := over_len hR (L := L) htl (part := p)
      have hNl : N.length ≤ 24 := by
        have := congrArg List.length hN
        simp at this
        omega
      simp [p_Lover]
      refine ⟨by simp [Slot.ads], R, L, t, p, .inr ⟨rfl, rfl, rfl, rfl⟩, hR, htl, fun c hc => ⟨hpo.lt c hc, ?_⟩, by have := hpo.len; omega, ?_⟩
      · have := (List.mem_filter.mp (hps.subset hc)).2
        simpa using this
      refine ⟨by simp [Slot.ads], l, a3, b3, lotL (over R L t p), (over R L t p).map nD, rfl, rfl, rfl, hs3, ?_, by simp; omega, fun x hx a4 b4 hs4 => ?_⟩
      · simpa using hov p hpm
      obtain ⟨j, hj, rfl⟩ := List.mem_map.mp hx
      refine ⟨by omega, (hV _ _).mpr ⟨a4, b4, N ++ [(p, some (t, j))], .dat (lotD p), ?_, hs4, ?_, fun p' hp' => ?_, rfl⟩⟩
      · simp [List.map_set, workD, placeD]
      · rw [List.map_append, hN, List.take_add_one, hp]
        rfl
      · rcases List.mem_append.mp hp' with h | h
        · exact hNj p' h
        · rw [List.mem_singleton] at h
          subst h
          exact ⟨j, hj, rfl⟩
    · intro ρ' v
      obtain ⟨a3, b3, N, s8', rfl, hs3, hN, hNj, h8'⟩ := (hV _ _).mp v
      rw [List.take_of_length_le (Nat.le_refl _)] at hN
      have hsumN : (N.map fun p => p.1.length).sum = (less P t).length := by
        rw [← parts_sum (L := L) _ (less P t) (Nat.le_refl _), ← hN, List.map_map]
        rfl
      refine ⟨((q ++ N).map fun p => p.1.length).sum, ?_, (hW _ _).mpr ⟨a3, b3, f.set t pl, q ++ N, .dat (lotD P), .dat (placeD pl), .dat (nD t), s8', rfl, hs3, F.next S htP hN hNj, fun p hp => ?_, ?_, rfl, rfl, rfl, rfl, h8'⟩⟩
      · rw [List.map_append, List.sum_append]
        omega
      · rcases List.mem_append.mp hp with h | h
        · exact hq p (List.mem_append_left _ h)
        · have : p.1 ∈ parts L (less P t) := by rw [← hN]; exact List.mem_map.mpr ⟨p, h, rfl⟩
          exact (hPo.less t).sub (DL.parts_sub this)
      · rw [List.map_append, List.sum_append]
        omega
end DL
end
section
set_option Elab.async false
set_option maxRecDepth 100000
set_option linter.all false
namespace DL
open PySem L2 L2.DC L2.GD MM
def p_Cdo (C : Addr) : DR1 := fun s ds k => ∃ p l R L f g row d h r, s = .crs C p l (worldD R L) (forestD f) (forestD g) row ∧ ds = [dwD d.1, nD d.2.1, nD d.2.2] ∧ ROk R ∧ Good R f ∧ On f d.2.1 h r ∧ row.length < 1000 ∧ k .none (.crs C p l (worldD R L) (forestD (behind L f d)) (forestD g) (row ++ [deedD d]))
theorem r_Cdo {C : Addr} : ∀ s ds kk, p_Cdo C s ds kk → d_Course_do C p_behind (fin1 s kk) (env0 5 (s :: ds.map .dat)) := by
  rintro s ds kk ⟨p, l, R, L, f, g, row, d, hh, r, rfl, rfl, hR, hg, o, hrow, h⟩
  simp [d_Course_do, env0, ends1, dSetHere, dFld, dAppR, p_behind]
  obtain ⟨b, x, j⟩ := d
  refine ⟨R, L, rfl, ?_⟩
  cases b with
  | false => exact .inl ⟨x, j, rfl, hR, hg, ⟨hh, r, o⟩, by omega, by simp [Slot.ads], h⟩
  | true => exact .inr ⟨x, j, rfl, hR, hg, ⟨hh, r, o⟩, by omega, by simp [Slot.ads], h⟩
end DL
end
section
set_option Elab.async false
set_option maxRecDepth 100000
set_option linter.all false
namespace DL
open PySem L2 L2.DC L2.GD MM
/-- what raise_in leaves -/
structure Raised (R : List Nat) (L : Tab) (goal : Forest) (x : Nat) (here : Forest) (ds : List Deed) (here' : Forest) : Prop where
  steps : Steps R L here ds here'
  ben : beneath here' x = beneath goal x
  out : ∀ y, y ∉ beneath goal x → up here' y = up here y
  top : ∀ t, t < R.length → beneath here t = beneath goal x → up here' x = up here t ∧ (t = x → ds = [] ∧ here' = here)
  few : ds.length ≤ (climb here x).length
def p_Craise (C : Addr) : DR1 := fun s ds k => ∃ p l R L f g row x t, s = .crs C p l (worldD R L) (forestD f) (forestD g) row ∧ ds = [lotD (beneath g x), nD x] ∧ ROk R ∧ SymT R.length L ∧ Least R L f ∧ Least R L g ∧ x < R.length ∧ t < R.length ∧ beneath f t = beneath g x ∧ row.length ≤ 500 ∧
  ∀ f' dl, Raised R L g x f dl f' → k .none (.crs C p l (worldD R L) (forestD f') (forestD g) (row ++ dl.map deedD))
theorem r_Craise {C : Addr} : ∀ s ds kk, p_Craise C s ds kk → d_Course_raise_in C p_outermost p_room_way (p_Cdo C) (fin1 s kk) (env0 4 (s :: ds.map .dat)) := by
  rintro s ds kk ⟨p, l, R, L, f, g, row, x, t, rfl, rfl, hR, S, lf, lg, hx, ht, hP, hrow, h⟩
  have hl := hR.len
  simp [d_Course_raise_in, env0, ends1]
  obtain ⟨W, hW⟩ := opq fun m ρ => ∃ (f1 : Forest) (dl : List Deed) (t1 : Nat) (s3 : Slot), ρ = [.crs C p l (worldD R L) (forestD f1) (forestD g) (row ++ dl.map deedD), .dat (lotD (beneath g x)), .dat (nD x), s3] ∧ s3.ads = [] ∧ Steps R L f dl f1 ∧ t1 < R.length ∧ beneath f1 t1 = beneath g x ∧ (∀ y, y ∉ beneath g x → up f1 y = up f y) ∧ up f1 t1 = up f t ∧ dl.length + (climb f1 x).length ≤ (climb f x).length ∧ (t = x → dl = [] ∧ f1 = f) ∧ m = (climb f1 x).length
  refine ⟨W, ⟨_, (hW _ _).mpr ⟨f, [], t, .no, by simp, rfl, .nil, ht, hP, fun _ _ => rfl, rfl, by simp, fun _ => ⟨rfl, rfl⟩, rfl⟩⟩, fun m ρ w => ?_⟩
  obtain ⟨f1, dl, t1, s3, rfl, h3, hst, ht1, hP1, hout, htop, hlen, hsame, rfl⟩ := (hW _ _).mp w
  clear w
  have l1 := hst.least S lf
  have g1 := l1.good
  have hol : outerL f1 (beneath g x) = [t1] := by rw [← hP1]; exact outerM_ben g1 ht1
  have hbl : (beneath g x).length ≤ 24 := by
    have := (beneath_ok lg.good (x := x)).len
    omega
  simp [dFld, p_outermost]
  have hmem : ∀ y ∈ beneath g x, y < f1.length := fun y hy => by rw [g1.len]; exact ((mem_ben lg.good).mp hy).1
  have hou : outer f1 (beneath g x) = t1 := by unfold outer; rw [hol]; rfl
  refine ⟨hbl, hmem, by rw [hol]; simp, ?_⟩
  rw [hou]
  by_cases e : t1 = x
  · subst e
    refine .inl ⟨rfl, by simp [Slot.ads], h f1 dl ⟨hst, hP1, hout, fun t2 ht2 hP2 => ?_, by omega⟩⟩
    have : t2 = t := top_one lf.good ht2 ht (hP2.trans hP.symm)
    subst this
    exact ⟨htop, hsame⟩
  · refine .inr ⟨e, ?_⟩
    have hxt : x ∈ beneath f1 t1 := by rw [hP1]; exact (mem_ben lg.good).mpr ⟨hx, .inl rfl⟩
    have hta := ((mem_ben g1).mp hxt).2.resolve_left e
    cases o : up f1 x with
    | none => rw [arnd_none o] at hta; cases hta
    | some q =>
      obtain ⟨hh, r⟩ := q
      obtain ⟨j, w1, w2, t2, w3, w4, w5, w6⟩ := raise_turn S l1 lg hP1 hx o fun h => e h.symm
      have hxf : f1[x]? = some (some (hh, r)) := by
        unfold up at o
        rw [List.getD_eq_getElem?_getD] at o
        cases e : f1[x]? with
        | none => rw [e] at o; cases o
        | some v => rw [e] at o; simp at o; rw [o]
      refine ⟨_, ⟨_, hxf, rfl⟩, [nD hh, nD r], rfl, nD hh, rfl, ?_⟩
      simp [dMeth, dFld, p_room_way, p_Cdo]
      have hcl := lf.good.climb_len x
      have hst2 : Steps R L f (dl ++ [(true, x, j)]) (behind L f1 (true, x, j)) := hst.trans (.one w2)
      have ht2 : t2 < R.length := by
        have : x ∈ beneath (behind L f1 (true, x, j)) t2 := by rw [w3]; exact (mem_ben lg.good).mpr ⟨hx, .inl rfl⟩
        have g2 := (hst2.least S lf).good
        rcases ((mem_ben g2).mp this).2 with q | q
        · rw [q]; exact hx
        · exact g2.arndLt q
      refine ⟨R, lg.good, hl, g1.lt o, R, L, rfl, .inr ⟨rfl, j, by rw [w1]; rfl, hR, g1, ⟨hh, r, o⟩, by omega, _, w4, (hW _ _).mpr ⟨behind L f1 (true, x, j), dl ++ [(true, x, j)], t2, .dat (nD hh), by simp, rfl, hst2, ht2, w3, fun y hy => (w6 y hy).trans (hout y hy), w5.trans htop, by simp; omega, fun e2 => ?_, rfl⟩⟩⟩
      subst e2
      obtain ⟨_, e3⟩ := hsame rfl
      subst e3
      exact absurd (top_one lf.good ht1 ht (hP1.trans hP.symm)) e
end DL
end
section
set_option Elab.async false
set_option maxRecDepth 100000
set_option linter.all false
namespace DL
open PySem L2 L2.DC L2.GD MM
def p_Clead (C : Addr) (m : Nat) : DR1 := fun s ds k => ∃ p l R L f g row x t, s = .crs C p l (worldD R L) (forestD f) (forestD g) row ∧ ds = [lotD (beneath g x)] ∧ ROk R ∧ SymT R.length L ∧ Least R L f ∧ Least R L g ∧ x < R.length ∧ t < R.length ∧ beneath f t = beneath g x ∧ row.length + (beneath g x).length * (R.length + 1) ≤ 450 ∧ (beneath g x).length ≤ m ∧
  ∀ f' dl, Led R L g x f dl f' → k .none (.crs C p l (worldD R L) (forestD f') (forestD g) (row ++ dl.map deedD))
theorem upGet {f : Forest} {x : Nat} {q : Nat × Nat} (o : up f x = some q) : f[x]? = some (some q) := by
  unfold up at o
  rw [List.getD_eq_getElem?_getD] at o
  cases e : f[x]? with
  | none => rw [e] at o; cases o
  | some v => rw [e] at o; simp at o; rw [o]
theorem r_Clead {C : Addr} {m : Nat} : ∀ s ds kk, p_Clead C (m + 1) s ds kk → d_Course_lead C p_outermost p_parts_in p_without p_room_way (p_Craise C) (p_Cdo C) (p_Clead C m) (fin1 s kk) (env0 6 (s :: ds.map .dat)) := by
  rintro s ds kk ⟨p, l, R, L, f, g, row, x, t, rfl, rfl, hR, S, lf, lg, hx, ht, hP, hrow, hm, h⟩
  have hl := hR.len
  have gg := lg.good
  have hbo := beneath_ok gg (x := x)
  have hbl := hbo.len
  have hxP : x ∈ beneath g x := (mem_ben gg).mpr ⟨hx, .inl rfl⟩
  have hpos : 0 < (beneath g x).length := List.length_pos_iff.mpr (List.ne_nil_of_mem hxP)
  have hmem : ∀ y ∈ beneath g x, y < g.length := fun y hy => by rw [gg.len]; exact ((mem_ben gg).mp hy).1
  have hol : outerL g (beneath g x) = [x] := outerM_ben gg hx
  have hou : outer g (beneath g x) = x := by unfold outer; rw [hol]; rfl
  simp [d_Course_lead, env0, ends1]
  simp [dFld, p_outermost]
  refine ⟨by omega, hmem, by rw [hol]; simp, ?_⟩
  rw [hou]
  have hrow2 : row.length ≤ 500 := by omega
  simp [dMeth]
  refine ⟨p, l, R, L, f, g, row, x, t, rfl, rfl, hR, S, lf, lg, hx, ht, hP, hrow2, fun f1 dl1 ra => ?_⟩
  have l1 := ra.steps.least S lf
  simp [dFld, p_without, p_parts_in]
  refine ⟨by omega, R, L, rfl, hR, hbo.less x, ?_⟩
  obtain ⟨W, hW⟩ := opq fun i ρ => ∃ (fi : Forest) (dl : List Deed) (s3 s4 s5 : Slot), ρ = [.crs C p l (worldD R L) (forestD fi) (forestD g) (row ++ (dl1 ++ dl).map deedD), .dat (lotD (beneath g x)), .dat (nD x), s3, s4, s5] ∧ s3.ads = [] ∧ s4.ads = [] ∧ s5.ads = [] ∧ LInv R L g x (parts L (less (beneath g x) x)) f1 i fi dl
  refine forOf_map (parts L (less (beneath g x) x)) lotD W ((hW _ _).mpr ⟨f1, [], .no, .no, .no, by simp, rfl, rfl, rfl, LInv.start ra.ben⟩) ?_ ?_
  · intro i Q ρ' hQ w
    obtain ⟨fi, dl, s3, s4, s5, rfl, h3, h4, h5, I⟩ := (hW _ _).mp w
    have hroom := I.room S lf lg hx ra.few hQ
    obtain ⟨c, a, d, j, k1, hc, hd, hcQ, hdQ, hw, hlen, hgr, hnx⟩ := I.next S l1 lg hx hQ
    have li := I.steps.least S l1
    have gi := li.good
    have olc : outerL fi Q = [c] := by rw [← hcQ]; exact outerM_ben gi hc
    have ouc : outer fi Q = c := by unfold outer; rw [olc]; rfl
    have hmq : ∀ y ∈ Q, y < fi.length := fun y hy => by rw [gi.len]; rw [← hcQ] at hy; exact ((mem_ben gi).mp hy).1
    obtain ⟨q0, qr, eQ⟩ : ∃ q0 qr, Q = q0 :: qr := by
      cases Q with
      | nil =>
        have : c ∈ beneath fi c := (mem_ben gi).mpr ⟨hc, .inl rfl⟩
        rw [hcQ] at this
        cases this
      | cons a b => exact ⟨a, b, rfl⟩
    have hq0 : q0 ∈ Q := by rw [eQ]; exact List.mem_cons_self
    simp [dFld, p_outermost]
    refine ⟨by omega, hmq, by rw [olc]; simp, ?_⟩
    rw [ouc]
    have hwq : wayTo g q0 x = some j := hw q0 hq0
    have hq0l : q0 < R.length := by
      have : q0 ∈ beneath g d := by rw [hdQ]; exact hq0
      exact ((mem_ben gg).mp this).1
    refine ⟨nD q0, ⟨q0, by rw [eQ]; rfl, rfl⟩, ?_⟩
    simp [p_room_way]
    refine ⟨R, gg, hl, hq0l, ?_⟩
    rw [hwq]
    refine ⟨_, ⟨_, upGet k1, rfl⟩, [nD x, nD a], rfl, nD a, rfl, ?_⟩
    simp [optD, dMeth]
    have hrl : row.length + dl1.length + dl.length + 1 + Q.length * (R.length + 1) ≤ 450 := by omega
    by_cases e : a = j
    · refine .inl ⟨e, ?_⟩
      obtain ⟨l2, b2, nx⟩ := hnx fi (by rw [if_pos e])
      refine ⟨p, l, R, L, fi, g, row ++ (dl1 ++ dl).map deedD, d, c, by simp, by rw [hdQ], hR, S, l2, lg, hd, hc, by rw [b2, hdQ], by simp; rw [hdQ]; omega, by rw [hdQ]; omega, fun f3 ds led => ?_⟩
      have I3 := nx f3 ds led
      rw [if_pos e, List.nil_append] at I3
      exact (hW _ _).mpr ⟨f3, dl ++ ds, _, _, _, by simp; exact ⟨rfl, rfl, rfl⟩, rfl, rfl, rfl, I3⟩
    · refine .inr ⟨e, ?_⟩
      obtain ⟨l2, b2, nx⟩ := hnx (behind L fi (false, c, j)) (by rw [if_neg e])
      simp [p_Cdo]
      refine ⟨R, L, rfl, .inl ⟨rfl, hR, gi, ⟨x, a, k1⟩, by omega, p, l, R, L, behind L fi (false, c, j), g, row ++ (dl1 ++ (dl ++ [(false, c, j)])).map deedD, d, c, by simp, by rw [hdQ], hR, S, l2, lg, hd, hc, by rw [b2, hdQ], by simp; rw [hdQ]; omega, by rw [hdQ]; omega, fun f3 ds led => ?_⟩⟩
      have I3 := nx f3 ds led
      rw [if_neg e] at I3
      exact (hW _ _).mpr ⟨f3, dl ++ ([(false, c, j)] ++ ds), _, _, _, by simp; exact ⟨rfl, rfl, rfl⟩, rfl, rfl, rfl, I3⟩
  · intro ρ' w
    obtain ⟨fi, dl, s3, s4, s5, rfl, h3, h4, h5, I⟩ := (hW _ _).mp w
    have led := I.done S lf lg hx ra.steps ra.out ra.top ra.few
    have := h fi (dl1 ++ dl) led
    simp [Slot.ads]
    simpa using this
end DL
end
section
set_option Elab.async false
set_option maxRecDepth 100000
set_option linter.all false
namespace DL
open PySem L2 L2.DC L2.GD MM
def p_walk : DRn := fun ds k => ∃ R ss f g, ds = [bookD R ss, forestD f, forestD g] ∧ BkOk R ss ∧ R.length ≤ 7 ∧ Least R (tabOf R ss) f ∧ Least R (tabOf R ss) g ∧ ∀ dl, Steps R (tabOf R ss) f dl g → (f = g → dl = []) → dl.length ≤ R.length * (R.length + 1) → k (deedsD dl)
theorem r_walk {C : Addr} : ∀ ds kk, p_walk ds kk → d_walk C p_made_book p_made_forest p_world_of p_is_least p_parts_in (p_Clead C 7) (fin kk) (env0 7 (ds.map .dat)) := by
  rintro ds kk ⟨R, ss, f, g, rfl, hB, hl, lf, lg, h⟩
  have hR := hB.rooms
  have S := tab_sym hB.says
  simp [d_walk, env0, p_made_book, p_made_forest, p_world_of, hB, hR, lf.good, lg.good, -Prod.exists]
  simp [p_is_least]
  refine ⟨R, tabOf R ss, rfl, hR, lf, R, tabOf R ss, rfl, hR, lg, ?_⟩
  simp [dMake, dSetF]
  intro p l
  simp [dTupRg, p_parts_in]
  rw [intsD_eq]
  refine ⟨by omega, R, tabOf R ss, rfl, List.range R.length, rfl, hR, ⟨fun x hx => by simpa using hx, List.pairwise_lt_range⟩, ?_⟩
  obtain ⟨W, hW⟩ := opq fun i ρ => ∃ (fi : Forest) (dl : List Deed) (s6 : Slot), ρ = [.dat (bookD R ss), .dat (forestD f), .dat (forestD g), .dat (lotD R), .dat (worldD R (tabOf R ss)), .crs C p l (worldD R (tabOf R ss)) (forestD fi) (forestD g) (dl.map deedD), s6] ∧ s6.ads = [] ∧ WInv R (tabOf R ss) g f i fi dl
  refine forOf_map (parts (tabOf R ss) (List.range R.length)) lotD W ((hW _ _).mpr ⟨f, [], .no, by simp, rfl, WInv.start⟩) ?_ ?_
  · intro i Q ρ' hQ w
    obtain ⟨fi, dl, s6, rfl, h6, I⟩ := (hW _ _).mp w
    obtain ⟨li, c, d, hc, hd, hcQ, hdQ, nx⟩ := I.next S lf lg hQ
    have hQl : Q.length ≤ R.length := by rw [← hdQ]; exact (beneath_ok lg.good).len
    have hfew : dl.length + Q.length * (R.length + 1) ≤ R.length * (R.length + 1) := by
      have h1 := sum_take_le (ps := parts (tabOf R ss) (List.range R.length)) (i := i + 1)
      rw [sum_take hQ, parts_sum _ _ (Nat.le_refl _), List.length_range] at h1
      have h2 := I.few
      have h3 := Nat.mul_le_mul_right (R.length + 1) h1
      rw [Nat.add_mul] at h3
      omega
    have hsq : R.length * (R.length + 1) ≤ 7 * 8 := Nat.mul_le_mul hl (by omega)
    simp [dMeth]
    refine ⟨p, l, R, tabOf R ss, fi, g, dl.map deedD, d, c, by simp, by rw [hdQ], hR, S, li, lg, hd, hc, by rw [hcQ, hdQ], by simp; rw [hdQ]; omega, by rw [hdQ]; omega, fun f3 ds led => ?_⟩
    exact (hW _ _).mpr ⟨f3, dl ++ ds, _, by simp; exact rfl, rfl, nx f3 ds led⟩
  · intro ρ' w
    obtain ⟨fi, dl, s6, rfl, h6, I⟩ := (hW _ _).mp w
    obtain ⟨e1, e2, e3⟩ := I.done S lf lg
    simp [dTupR]
    exact h dl e1 e2 e3
end DL
end
section
set_option Elab.async false
set_option maxRecDepth 100000
set_option linter.all false
namespace DL
open PySem L2 L2.DC L2.GD MM
/-! ### what repr shows -/
def ShB (n : Nat) (d : PyData) : Bool := d.showable && (decide (d.shown.length ≤ n) && PyData.strOk d.shown)
theorem shB {n : Nat} {d : PyData} (h : ShB n d = true) : d.showable = true ∧ d.shown.length ≤ n ∧ PyData.strOk d.shown = true := by
  unfold ShB at h
  rw [Bool.and_eq_true, Bool.and_eq_true, decide_eq_true_eq] at h
  exact h
theorem so_app {a b : Str} (ha : PyData.strOk a = true) (hb : PyData.strOk b = true) : PyData.strOk (a ++ b) = true := by
  unfold PyData.strOk at ha hb ⊢
  rw [Str.cps_append, Array.all_append, ha, hb]
  rfl
theorem so_join : ∀ ts : List Str, (∀ t ∈ ts, PyData.strOk t = true) → PyData.strOk (Str.join ", " ts) = true
  | [], _ => by decide +kernel
  | [x], h => h x List.mem_cons_self
  | x :: y :: r, h => so_app (so_app (h x List.mem_cons_self) (by decide +kernel)) (so_join (y :: r) fun t ht => h t (List.mem_cons_of_mem _ ht))
theorem shownAll_map : ∀ ds : List PyData, PyData.shownAll ds = ds.map PyData.shown
  | [] => rfl
  | d :: ds => by rw [PyData.shownAll, shownAll_map ds, List.map_cons]
theorem showable_all : ∀ ds : List PyData, (∀ d ∈ ds, d.showable = true) → PyData.showableAll ds = true
  | [], _ => rfl
  | d :: ds, h => by
    rw [PyData.showableAll, h d List.mem_cons_self, showable_all ds fun x hx => h x (List.mem_cons_of_mem _ hx)]
    rfl
theorem piled_le {n : Nat} : ∀ ts : List Str, (∀ t ∈ ts, t.length ≤ n) → piled ts ≤ ts.length * (n + 2)
  | [], _ => by simp [piled]
  | t :: ts, h => by
    have h1 := piled_le ts fun x hx => h x (List.mem_cons_of_mem _ hx)
    have h2 := h t List.mem_cons_self
    rw [piled_cons, List.length_cons, Nat.add_mul]
    omega
theorem sh_tup {n : Nat} {ds : List PyData} (h : ∀ d ∈ ds, ShB n d = true) : ShB (ds.length * (n + 2) + 4) (.tuple ds) = true := by
  have hts : ∀ t ∈ ds.map PyData.shown, t.length ≤ n ∧ PyData.strOk t = true := fun t ht => by
    obtain ⟨d, hd, rfl⟩ := List.mem_map.mp ht
    exact (shB (h d hd)).2
  have e : PyData.shown (.tuple ds) = tupleText (ds.map PyData.shown) := by rw [PyData.shown, shownAll_map]
  have hl : (Str.join ", " (ds.map PyData.shown)).length ≤ ds.length * (n + 2) := by
    by_cases hn : ds.map PyData.shown = []
    · rw [hn]
      exact Nat.zero_le _
    · have h1 := join_length_add _ hn
      have h2 := piled_le _ fun t ht => (hts t ht).1
      rw [List.length_map] at h2
      omega
  unfold ShB
  rw [Bool.and_eq_true, Bool.and_eq_true, decide_eq_true_eq, e]
  refine ⟨?_, ?_, ?_⟩
  · rw [PyData.showable]
    exact showable_all ds fun d hd => (shB (h d hd)).1
  · unfold tupleText
    rw [strLen_append, strLen_append]
    have e1 : ((("(" : String) : Str)).length = 1 := rfl
    have e3 : (((if (ds.map PyData.shown).length == 1 then ",)" else ")" : String) : Str)).length ≤ 2 := by split <;> decide
    omega
  · unfold tupleText
    refine so_app (so_app (by decide +kernel) (so_join _ fun t ht => (hts t ht).2)) ?_
    split <;> decide +kernel
theorem sh_nat : ∀ n < 24, ShB 20 (nD n) = true := by decide +kernel
theorem sh_dw : ∀ b : Bool, ShB 20 (dwD b) = true := by decide +kernel
theorem shB_le {n m : Nat} {d : PyData} (h : ShB n d = true) (hn : n ≤ m) : ShB m d = true := by
  obtain ⟨a, b, c⟩ := shB h
  unfold ShB
  rw [Bool.and_eq_true, Bool.and_eq_true, decide_eq_true_eq]
  exact ⟨a, Nat.le_trans b hn, c⟩
theorem sh_deed0 (b : Bool) {x j : Nat} (hx : x < 24) (hj : j < 24) : ShB 100 (deedD (b, x, j)) = true :=
  shB_le (sh_tup (n := 20) (ds := [dwD b, nD x, nD j]) fun d hd => by
    rcases List.mem_cons.mp hd with rfl | hd
    · exact sh_dw b
    · rcases List.mem_cons.mp hd with rfl | hd
      · exact sh_nat x hx
      · rw [List.mem_singleton] at hd
        subst hd
        exact sh_nat j hj) (by simp)
theorem sh_place0 {h r : Nat} (hh : h < 24) (hr : r < 24) : ShB 100 (placeD (some (h, r))) = true :=
  shB_le (sh_tup (n := 20) (ds := [nD h, nD r]) fun d hd => by
    rcases List.mem_cons.mp hd with rfl | hd
    · exact sh_nat h hh
    · rw [List.mem_singleton] at hd
      subst hd
      exact sh_nat r hr) (by simp)
theorem rmostD {R : List Nat} (h : ROk R) {x : Nat} (hx : x < R.length) : R.getD x 0 ≤ 4 := by
  rw [List.getD_eq_getElem?_getD, List.getElem?_eq_getElem hx]
  exact rmost h hx
theorem sh_place {R : List Nat} (hR : ROk R) {f : Forest} (g : Good R f) (x : Nat) : ShB 100 (placeD (up f x)) = true := by
  cases e : up f x with
  | none => show ShB 100 .none = true; decide +kernel
  | some p =>
    obtain ⟨h, r⟩ := p
    have h1 := g.pl x h r e
    have h2 := rmostD hR h1.1
    have h3 := hR.len
    exact sh_place0 (by omega) (by omega)
theorem sh_forest {R : List Nat} (hR : ROk R) {f : Forest} (g : Good R f) : ShB 10000 (forestD f) = true := by
  have h1 : ∀ d ∈ f.map placeD, ShB 100 d = true := fun d hd => by
    obtain ⟨p, hp, rfl⟩ := List.mem_map.mp hd
    obtain ⟨i, hi, e⟩ := List.getElem_of_mem hp
    have := sh_place hR g i
    unfold up at this
    rw [List.getD_eq_getElem?_getD, List.getElem?_eq_getElem hi] at this
    rw [← e]
    exact this
  obtain ⟨a, b, c⟩ := shB (sh_tup h1)
  have h2 := g.len
  have h3 := hR.len
  rw [List.length_map] at b
  unfold ShB
  rw [Bool.and_eq_true, Bool.and_eq_true, decide_eq_true_eq]
  exact ⟨a, Nat.le_trans b (by omega), c⟩
theorem sh_deed {R : List Nat} (hR : ROk R) {L : Tab} {f : Forest} (g : Good R f) {d : Deed} (h : d ∈ lawDeeds R L f) : ShB 100 (deedD d) = true := by
  have key : d.2.1 < 24 ∧ d.2.2 < 5 := by
    have h3 := hR.len
    have hf := g.len
    unfold lawDeeds at h
    rcases List.mem_append.mp h with h | h
    · obtain ⟨x, hx, h⟩ := List.mem_flatMap.mp h
      have hx : x < f.length := by simpa using hx
      unfold turnsAt at h
      cases e : up f x with
      | none => rw [e] at h; cases h
      | some p =>
        obtain ⟨hh, r⟩ := p
        rw [e] at h
        simp only at h
        split at h
        · obtain ⟨j, hj, rfl⟩ := List.mem_map.mp h
          have := (mem_over.mp hj).1
          have h4 := rmostD hR (show x < R.length by omega)
          exact ⟨by show x < 24; omega, by show j < 5; omega⟩
        · cases h
    · obtain ⟨x, hx, h⟩ := List.mem_flatMap.mp h
      have hx : x < f.length := by simpa using hx
      unfold shiftsAt at h
      cases e : up f x with
      | none => rw [e] at h; cases h
      | some p =>
        obtain ⟨hh, r⟩ := p
        rw [e] at h
        obtain ⟨j, hj, rfl⟩ := List.mem_map.mp h
        have := (mem_over.mp (List.mem_filter.mp hj).1).1
        have h4 := rmostD hR (g.lt e)
        exact ⟨by show x < 24; omega, by show j < 5; omega⟩
  obtain ⟨b, x, j⟩ := d
  exact sh_deed0 b key.1 (Nat.lt_of_lt_of_le key.2 (by decide))
end DL
end
section
set_option Elab.async false
set_option maxRecDepth 100000
set_option linter.all false
namespace DL
open PySem L2 L2.DC L2.GD MM
def p_Lright : DRn := fun ds k => ∃ R ss f g, ds = [lotD R, saysL ss, forestD f, forestD g] ∧ BkOk R ss ∧ R.length ≤ 7 ∧ Least R (tabOf R ss) f ∧ Least R (tabOf R ss) g ∧ k (.bool true)
theorem steps_head {R : List Nat} {L : Tab} {f g : Forest} {d : Deed} {dl : List Deed} (h : Steps R L f (d :: dl) g) : granted R L f d = true ∧ Steps R L (behind L f d) dl g := by
  cases h with
  | cons a b => exact ⟨a, b⟩
theorem steps_nil {R : List Nat} {L : Tab} {f g : Forest} (h : Steps R L f [] g) : f = g := by
  cases h
  rfl
theorem ok_shown {n k : Nat} {d : PyData} (h : ShB n d = true) : okD k (.str d.shown) := ok_str (shB h).2.2
theorem lawDeeds_len {R : List Nat} (hR : ROk R) {L : Tab} {f : Forest} (g : Good R f) : (lawDeeds R L f).length ≤ 200 := by
  have hl := hR.len
  have hf := g.len
  have hx : ∀ x ∈ List.range f.length, x < R.length := fun x hx => by
    have : x < f.length := by simpa using hx
    omega
  have a1 := flat_len (g := turnsAt R L f) (List.range f.length) fun x h => (turnsAt_len hR (L := L) g (hx x h)).1
  have a2 := flat_len (g := shiftsAt R L f) (List.range f.length) fun x h => (turnsAt_len hR (L := L) g (hx x h)).2
  rw [List.length_range] at a1 a2
  unfold lawDeeds
  rw [List.length_append]
  omega
theorem ok59_shown {n : Nat} {ds : List Deed} (h : ∀ d ∈ ds, ShB n (deedD d) = true) : Ok59 (ds.map fun d => .str (deedD d).shown) := fun x hx => by
  obtain ⟨d, hd, rfl⟩ := List.mem_map.mp hx
  exact ok_shown (h d hd)
theorem any_shown {ds : List Deed} {d : Deed} (h : d ∈ ds) : AnyEq (ds.map fun d => .str (deedD d).shown) (.str (deedD d).shown) = true :=
  List.any_eq_true.mpr ⟨_, List.mem_map.mpr ⟨d, h, rfl⟩, by rw [eqv_str]; exact decide_eq_true rfl⟩
theorem r_Lright : ∀ ds kk, p_Lright ds kk → d__law_walk_right p_Ltable p_walk p_least_right p_Ldeeds p_Lbehind p_after p_Lis_least (fin kk) (env0 12 (ds.map .dat)) := by
  rintro ds kk ⟨R, ss, f, g, rfl, hB, hl, lf, lg, h⟩
  have hR := hB.rooms
  have S := tab_sym hB.says
  have hfew := hB.few
  have hk : ∀ {e : Forest}, Least R (tabOf R ss) e → ∀ s ∈ ss, stand e s.1 s.2.1 ∈ s.2.2 := fun {e} l s hs => by
    obtain ⟨h1, h2, h3, _⟩ := hB.says s hs
    exact tab_say hs (l.lets s.1 s.2.1 h1 h2 h3)
  simp [d__law_walk_right, env0, p_Ltable]
  refine ⟨hB, ?_⟩
  rw [show (PyData.tuple [lotD R, PyData.tuple (List.map sayD ss)]) = bookD R ss from rfl]
  refine ⟨R, ss, f, g, rfl, hB, hl, lf, lg, fun dl st same few => ?_⟩
  have hsq : R.length * (R.length + 1) ≤ 7 * 8 := Nat.mul_le_mul hl (by omega)
  have few60 : dl.length ≤ 60 := by omega
  simp
  refine .inl ⟨by omega, R, ss, f, rfl, hB, lf, hk lf, .inr ⟨rfl, R, ss, g, rfl, hB, lg, hk lg, .inr ⟨rfl, ?_⟩⟩⟩
  obtain ⟨W, hW⟩ := opq fun i ρ => ∃ (fi : Forest) (s8 s9 s10 : Slot), ρ = [.dat (lotD R), .dat (saysL ss), .dat (forestD f), .dat (forestD g), .dat (bookD R ss), .dat (tD' R.length (tabOf R ss)), .dat (deedsD dl), .dat (forestD fi), s8, s9, s10, .no] ∧ s8.ads = [] ∧ s9.ads = [] ∧ s10.ads = [] ∧ Least R (tabOf R ss) fi ∧ Steps R (tabOf R ss) fi (dl.drop i) g
  refine forOf_map dl deedD W ((hW _ _).mpr ⟨f, .no, .no, .no, by simp, rfl, rfl, rfl, lf, by rw [List.drop_zero]; exact st⟩) ?_ ?_
  · intro i d ρ' hd w
    obtain ⟨fi, s8, s9, s10, rfl, h8, h9, h10, li, sti⟩ := (hW _ _).mp w
    obtain ⟨hi, ei⟩ := List.getElem?_eq_some_iff.mp hd
    rw [List.drop_eq_getElem_cons hi, ei] at sti
    obtain ⟨hg, st2⟩ := steps_head sti
    have l2 : Least R (tabOf R ss) (behind (tabOf R ss) fi d) := li.behind S hg
    have hm := granted_mem li.good hg
    obtain ⟨hh, r, o⟩ := granted_on hg
    have shd := sh_deed hR li.good hm
    have shf := sh_forest hR l2.good
    simp [p_Ldeeds]
    refine ⟨tabOf R ss, rfl, hR, li.good, ?_⟩
    have hln := lawDeeds_len hR (L := tabOf R ss) li.good
    refine lcOf_all (lawDeeds R (tabOf R ss) fi) deedD (fun d => .str (deedD d).shown) (by omega) (by simp [Slot.ads]) (by simp) (fun e he Y hY => ?_) fun l1 => ?_
    · obtain ⟨s1, s2, s3⟩ := shB (sh_deed hR li.good he)
      simp [wipeD, dRepr]
      exact ⟨s1, by omega, hY _ (by simp [wipeD])⟩
    have okd : okD 60 (.str (deedD d).shown) := ok_shown shd
    have okds := ok59_shown fun e he => sh_deed hR li.good (L := tabOf R ss) he
    have anyd := any_shown hm
    obtain ⟨s1, s2, s3⟩ := shB shd
    obtain ⟨u1, u2, u3⟩ := shB shf
    generalize hG : (lawDeeds R (tabOf R ss) fi).map (fun d => PyData.str (deedD d).shown) = G at okds anyd ⊢
    simp [dRepr, okd, okds, anyd]
    refine ⟨s1, by omega, R, tabOf R ss, fi, d, hh, r, by simp, hR, li.good, o, ?_⟩
    refine ⟨R, ss, fi, d, rfl, hB, li, hg, ?_⟩
    have okz : okD 60 (.str (forestD (behind (tabOf R ss) fi d)).shown) := ok_shown shf
    have okf : okD 60 (forestD (behind (tabOf R ss) fi d)) = True := okF
    simp [okz, okf, u1]
    refine ⟨by omega, R, tabOf R ss, behind (tabOf R ss) fi d, by simp, hR, l2, .inr ⟨rfl, R, ss, behind (tabOf R ss) fi d, rfl, hB, l2, hk l2, .inr ⟨rfl, ?_⟩⟩⟩
    exact (hW _ _).mpr ⟨behind (tabOf R ss) fi d, _, _, _, rfl, rfl, rfl, rfl, l2, st2⟩
  · intro ρ' w
    obtain ⟨fi, s8, s9, s10, rfl, h8, h9, h10, li, sti⟩ := (hW _ _).mp w
    rw [List.drop_length] at sti
    have e := steps_nil sti
    subst e
    simp
    by_cases e2 : f = fi
    · refine .inl ⟨e2, ?_⟩
      rw [same e2]
      refine ⟨okNilT ▸ trivial, ?_⟩
      have : (deedsD []).eqv (.tuple []) = true := by simp [deedsD, PyData.eqv, PyData.eqvAll]
      rw [this]
      exact h
    · exact .inr ⟨e2, h⟩
end DL
end
section
set_option Elab.async false
set_option maxRecDepth 100000
set_option linter.all false
namespace DL
open PySem L2 L2.DC L2.GD MM
def p_law : DRn := fun ds k => ∃ ns : List Int, ds = [scrD ns] ∧ k (.bool true)
theorem opq3 (p : Nat → List PyData → Env → Prop) : ∃ W : Nat → List PyData → Env → Prop, ∀ m acc ρ, W m acc ρ ↔ p m acc ρ := ⟨p, fun _ _ _ => Iff.rfl⟩
theorem knot_bk : BkOk knotR knotSs := ⟨⟨by decide, by decide⟩, knot_ok, by decide⟩
theorem r_law : ∀ ds kk, p_law ds kk → d_law p_Lright p_Lpool p_Ltake p_Lone p_Lgrown p_Lkept_saying p_Ltable p_Lleast_made (fin kk) (env0 12 (ds.map .dat)) := by
  rintro ds kk ⟨ns, rfl, h⟩
  simp [d_law, env0]
  refine ⟨knotR, knotSs, knotF, knotG, by trivial, knot_bk, by decide, knotF_least, knotG_least, ?_⟩
  refine .inr ⟨rfl, ?_⟩
  generalize Slot.dat (PyData.list _) = S2
  generalize Slot.dat (PyData.tuple _) = S1
  simp [dCF, p_Lpool]
  intro l a b hs
  simp [Slot.ads]
  simp [p_Ltake]
  refine ⟨3, rfl, hs, by omega, by omega, fun r a1 b1 hr hs1 => ⟨3 + r, by omega, by omega, ?_⟩⟩
  obtain ⟨W, hW⟩ := opq3 fun i acc ρ => ∃ (R : List Nat) (a b : Int), acc = R.map nD ∧ R.length = i ∧ (∀ r ∈ R, r ≤ 4) ∧ Src a b ∧ ρ = [.dat (scrD ns), S1, S2, .lst l [.int a, .int b], .no, .no, .no, .no, .no, .no, .no, .no]
  refine ⟨by simp [intsD]; omega, by simp [Slot.ads], by simp, W, (hW _ _ _).mpr ⟨[], a1, b1, rfl, rfl, by simp, hs1, by simp [wipeD]⟩, ?_, ?_⟩
  · intro i x acc ρ' hx w
    obtain ⟨R, a, b, rfl, hRl, hR4, hs2, rfl⟩ := (hW _ _ _).mp w
    simp [Slot.ads, p_Lone]
    have sl7 : 7 ≤ sizeLine := by rw [sizeLine_eq]; decide
    refine ⟨sl7, hs2, ?_⟩
    have key : ∀ n : Nat, n ≤ 4 → ∀ a' b', Src a' b' → W (i + 1) (R.map nD ++ [nD n]) (wipeD [.dat (scrD ns), S1, S2, .lst l [.int a', .int b'], .no, .no, .no, .no, .no, .no, .dat x, .no] [10]) := fun n hn a' b' h' => (hW _ _ _).mpr ⟨R ++ [n], a', b', by simp, by simp [hRl], fun y hy => by
      rcases List.mem_append.mp hy with hy | hy
      · exact hR4 y hy
      · rw [List.mem_singleton] at hy
        subst hy
        exact hn, h', by simp [wipeD]⟩
    exact ⟨key 1 (by decide), key 2 (by decide), key 1 (by decide), key 3 (by decide), key 2 (by decide), key 0 (by decide), key 4 (by decide)⟩
  intro acc ρ' w l3
  obtain ⟨R, a2, b2, rfl, hRl, hR4, hs2, rfl⟩ := (hW _ _ _).mp w
  have hR : ROk R := ⟨by simp [intsD] at hRl; omega, hR4⟩
  have hR7 : R.length ≤ 7 := by simp [intsD] at hRl; omega
  have hR2 : 2 ≤ R.length := by simp [intsD] at hRl; omega
  clear hW w W
  simp [mergeD]
  rw [show PyData.tuple (R.map nD) = lotD R from rfl]
  simp [p_Lgrown]
  refine ⟨hs2, hR, fun f hf a3 b3 hs3 => ⟨7, rfl, hs3, by omega, by omega, fun r2 a4 b4 hr2 hs4 => ⟨by omega, ?_⟩⟩⟩
  obtain ⟨W, hW⟩ := opq3 fun i acc ρ => ∃ (ss : List Say) (a b : Int), acc = ss.map sayD ∧ ss.length = i ∧ (∀ s ∈ ss, SayOk R s ∧ stand f s.1 s.2.1 ∈ s.2.2) ∧ Src a b ∧ ρ = [.dat (scrD ns), S1, S2, .lst l [.int a, .int b], .dat (lotD R), .dat (forestD f), .no, .no, .no, .no, .no, .no]
  refine ⟨by simp [intsD]; omega, by simp [Slot.ads], by simp, W, (hW _ _ _).mpr ⟨[], a4, b4, rfl, rfl, by simp, hs4, by simp [wipeD]⟩, ?_, ?_⟩
  · intro i x acc ρ' hx w
    obtain ⟨ss, a, b, rfl, hsl, hss, hs5, rfl⟩ := (hW _ _ _).mp w
    simp [Slot.ads, p_Lkept_saying]
    refine ⟨hs5, hR, hR2, hf, fun x1 y1 l1 hsy hst a6 b6 hs6 => ?_⟩
    exact (hW _ _ _).mpr ⟨ss ++ [(x1, y1, l1)], a6, b6, by simp, by simp [hsl], fun y hy => by
      rcases List.mem_append.mp hy with hy | hy
      · exact hss y hy
      · rw [List.mem_singleton] at hy
        subst hy
        exact ⟨hsy, hst⟩, hs6, by simp [wipeD]⟩
  intro acc ρ' w l4
  obtain ⟨ss, a5, b5, rfl, hsl, hss, hs5, rfl⟩ := (hW _ _ _).mp w
  have hB : BkOk R ss := ⟨hR, fun s hs => (hss s hs).1, by simp [intsD] at hsl; omega⟩
  have S := tab_sym hB.says
  have K : Keeps R (tabOf R ss) f := tab_keeps hf fun s hs => (hss s hs).2
  clear hW w W
  simp [mergeD]
  rw [show PyData.list (ss.map sayD) = saysL ss from rfl]
  simp [p_Ltable, hB]
  refine ⟨l, a5, b5, R, tabOf R ss, f, rfl, rfl, hs5, hR, S, hf, K, fun f1 l1 a6 b6 hs6 => ⟨by simp, ?_⟩⟩
  refine ⟨l, a6, b6, R, tabOf R ss, f, rfl, rfl, hs6, hR, S, hf, K, fun f2 l2 a7 b7 hs7 => ?_⟩
  exact ⟨R, ss, f1, f1, rfl, hB, hR7, l1, l1, .inr ⟨rfl, R, ss, f1, f2, rfl, hB, hR7, l1, l2, h⟩⟩
end DL
end
section
set_option Elab.async false
set_option maxRecDepth 100000
set_option linter.all false
set_option maxHeartbeats 0
namespace DL
open PySem L2 L2.DC L2.GD MM
/-! each def keeps its promise -/
section
variable {P : Program} {w : World} {K : PySem.W.Frag} {mg : Str → Option Value} {base : Heap} {C : Addr}
theorem c_is_whole (G : Glo K w mg) (D : Df K mg "is_whole" ["value"] (top 17)) : Cl P w K mg base "is_whole" ["value"] 1 p_is_whole :=
  D.cl sc_is_whole (fun ds k ⟨_, e, _⟩ => by rw [e]; rfl) fun f cdv A outer s H E hr => ⟨_, w_is_whole G hr, r_is_whole⟩
theorem c_lies_in_itself (G : Glo K w mg) (D : Df K mg "lies_in_itself" ["forest", "x"] (top 23)) : Cl P w K mg base "lies_in_itself" ["forest", "x"] 1 p_lies_in_itself :=
  D.cl sc_lies_in_itself (fun ds k ⟨_, _, _, e, _⟩ => by rw [e]; rfl) fun f cdv A outer s H E hr => ⟨_, w_lies_in_itself G hr, r_lies_in_itself⟩
theorem c_around (G : Glo K w mg) (D : Df K mg "around" ["forest", "x"] (top 28)) : Cl P w K mg base "around" ["forest", "x"] 1 p_around :=
  D.cl sc_around (fun ds k ⟨_, _, _, e, _⟩ => by rw [e]; rfl) fun f cdv A outer s H E hr => ⟨_, w_around G hr, r_around⟩
theorem c_room_way (G : Glo K w mg) (D : Df K mg "room_way" ["forest", "x", "y"] (top 29)) : Cl P w K mg base "room_way" ["forest", "x", "y"] 1 p_room_way :=
  D.cl sc_room_way (fun ds k ⟨_, _, _, _, e, _⟩ => by rw [e]; rfl) fun f cdv A outer s H E hr => ⟨_, w_room_way G hr, r_room_way⟩
theorem c_put (G : Glo K w mg) (D : Df K mg "put" ["forest", "x", "place"] (top 31)) : Cl P w K mg base "put" ["forest", "x", "place"] 1 p_put :=
  D.cl sc_put (fun ds k ⟨_, _, _, e, _⟩ => by rw [e]; rfl) fun f cdv A outer s H E hr => ⟨_, w_put G hr, r_put⟩
theorem c_allZ (G : Glo K w mg) (D : Df K mg "all_standings" ["rooms", "x", "y"] (top 35)) : Cl P w K mg base "all_standings" ["rooms", "x", "y"] 1 p_allZ :=
  D.cl sc_all_standings (fun ds k ⟨_, _, _, e, _⟩ => by rw [e]; rfl) fun f cdv A outer s H E hr => ⟨_, w_all_standings G hr, r_allZ⟩
theorem c_turned (G : Glo K w mg) (D : Df K mg "turned" ["standing"] (top 37)) : Cl P w K mg base "turned" ["standing"] 1 p_turned :=
  D.cl sc_turned (fun ds k ⟨_, e, _⟩ => by rw [e]; rfl) fun f cdv A outer s H E hr => ⟨_, w_turned G hr, r_turned⟩
theorem c_is_pair (G : Glo K w mg) (D : Df K mg "is_pair" ["thing"] (top 45)) : Cl P w K mg base "is_pair" ["thing"] 1 p_is_pair :=
  D.cl sc_is_pair (fun ds k ⟨_, _, e, _⟩ => by rw [e]; rfl) fun f cdv A outer s H E hr => ⟨_, w_is_pair G hr, r_is_pair⟩
theorem c_common_lets (G : Glo K w mg) (D : Df K mg "common_lets" ["one", "other"] (top 49)) : Cl P w K mg base "common_lets" ["one", "other"] 1 p_common_lets :=
  D.cl sc_common_lets (fun ds k ⟨_, _, e, _⟩ => by rw [e]; rfl) fun f cdv A outer s H E hr => ⟨_, w_common_lets G hr, r_common_lets⟩
theorem c_near_of (G : Glo K w mg) (D : Df K mg "near_of" ["rooms", "lets"] (top 54)) : Cl P w K mg base "near_of" ["rooms", "lets"] 1 p_near_of :=
  D.cl sc_near_of (fun ds k ⟨_, _, e, _⟩ => by rw [e]; rfl) fun f cdv A outer s H E hr => ⟨_, w_near_of G hr, r_near_of⟩
theorem c_without (G : Glo K w mg) (D : Df K mg "without" ["lot", "t"] (top 56)) : Cl P w K mg base "without" ["lot", "t"] 1 p_without :=
  D.cl sc_without (fun ds k ⟨_, _, e, _⟩ => by rw [e]; rfl) fun f cdv A outer s H E hr => ⟨_, w_without G hr, r_without⟩
theorem c_reached (G : Glo K w mg) (D : Df K mg "reached" ["near", "lot", "start"] (top 57)) : Cl P w K mg base "reached" ["near", "lot", "start"] 1 p_reached :=
  D.cl sc_reached (fun ds k ⟨_, _, _, _, e, _⟩ => by rw [e]; rfl) fun f cdv A outer s H E hr => ⟨_, w_reached G hr, r_reached⟩
theorem c_shut_out (G : Glo K w mg) (D : Df K mg "shut_out" ["world", "t", "room", "part"] (top 60)) : Cl P w K mg base "shut_out" ["world", "t", "room", "part"] 1 p_shut_out :=
  D.cl sc_shut_out (fun ds k ⟨_, _, _, _, _, e, _⟩ => by rw [e]; rfl) fun f cdv A outer s H E hr => ⟨_, w_shut_out G hr, r_shut_out⟩
theorem c_outermost (G : Glo K w mg) (D : Df K mg "outermost" ["forest", "part"] (top 85)) : Cl P w K mg base "outermost" ["forest", "part"] 1 p_outermost :=
  D.cl sc_outermost (fun ds k ⟨_, _, e, _⟩ => by rw [e]; rfl) fun f cdv A outer s H E hr => ⟨_, w_outermost G hr, r_outermost⟩
theorem c__law_pool (G : Glo K w mg) (D : Df K mg "_law_pool" ["_law_script", "_law_k"] (top 89)) : ClF P w K mg base "_law_pool" ["_law_script", "_law_k"] 1 p_Lpool :=
  D.clF sc__law_pool (fun ds k ⟨_, e, _⟩ => by rw [e]; rfl) fun f cdv A outer s H E hr => ⟨_, w__law_pool G hr, r_Lpool⟩
theorem c__law_take (G : Glo K w mg) (D : Df K mg "_law_take" ["_law_source", "_law_top"] (top 90)) : Cl1 P w K mg base "_law_take" ["_law_source", "_law_top"] 1 p_Ltake :=
  D.cl1 sc__law_take (fun s ds k ⟨_, _, _, _, _, e, _⟩ => by rw [e]; rfl) fun f cdv A outer s H E hr => ⟨_, w__law_take G hr, r_Ltake⟩
theorem c__law_climb (G : Glo K w mg) (D : Df K mg "_law_climb" ["_law_forest", "_law_x"] (top 95)) : Cl P w K mg base "_law_climb" ["_law_forest", "_law_x"] 1 p_Lclimb :=
  D.cl sc__law_climb (fun ds k ⟨_, _, e, _⟩ => by rw [e]; rfl) fun f cdv A outer s H E hr => ⟨_, w__law_climb G hr, r_Lclimb⟩
theorem c__law_turned (G : Glo K w mg) (D : Df K mg "_law_turned" ["_law_standing_here"] (top 97)) : Cl P w K mg base "_law_turned" ["_law_standing_here"] 1 p_Lturned :=
  D.cl sc__law_turned (fun ds k ⟨_, e, _⟩ => by rw [e]; rfl) fun f cdv A outer s H E hr => ⟨_, w__law_turned G hr, r_Lturned⟩
theorem c__law_every (G : Glo K w mg) (D : Df K mg "_law_every" ["_law_rooms", "_law_x", "_law_y"] (top 98)) : Cl P w K mg base "_law_every" ["_law_rooms", "_law_x", "_law_y"] 1 p_Levery :=
  D.cl sc__law_every (fun ds k ⟨_, _, _, e, _⟩ => by rw [e]; rfl) fun f cdv A outer s H E hr => ⟨_, w__law_every G hr, r_Levery⟩
theorem c__law_parts (G : Glo K w mg) (D : Df K mg "_law_parts" ["_law_table_here", "_law_lot"] (top 101)) : Cl P w K mg base "_law_parts" ["_law_table_here", "_law_lot"] 1 p_Lparts :=
  D.cl sc__law_parts (fun ds k ⟨_, _, _, e, _⟩ => by rcases e with e | e <;> (rw [e]; rfl)) fun f cdv A outer s H E hr => ⟨_, w__law_parts G hr, r_Lparts⟩
theorem c__law_less (G : Glo K w mg) (D : Df K mg "_law_less" ["_law_lot", "_law_t"] (top 102)) : Cl P w K mg base "_law_less" ["_law_lot", "_law_t"] 1 p_Lless :=
  D.cl sc__law_less (fun ds k ⟨_, _, e, _⟩ => by rcases e with e | e <;> (rw [e]; rfl)) fun f cdv A outer s H E hr => ⟨_, w__law_less G hr, r_Lless⟩
theorem c__law_over (G : Glo K w mg) (D : Df K mg "_law_over" ["_law_rooms", "_law_table_here", "_law_t", "_law_part"] (top 103)) : Cl P w K mg base "_law_over" ["_law_rooms", "_law_table_here", "_law_t", "_law_part"] 1 p_Lover :=
  D.cl sc__law_over (fun ds k ⟨_, _, _, _, e, _⟩ => by rcases e with e | e <;> (rw [e]; rfl)) fun f cdv A outer s H E hr => ⟨_, w__law_over G hr, r_Lover⟩
theorem c__law_hung (G : Glo K w mg) (D : Df K mg "_law_hung" ["_law_forest", "_law_x", "_law_place"] (top 110)) : Cl P w K mg base "_law_hung" ["_law_forest", "_law_x", "_law_place"] 1 p_Lhung :=
  D.cl sc__law_hung (fun ds k ⟨_, _, _, e, _⟩ => by rw [e]; rfl) fun f cdv A outer s H E hr => ⟨_, w__law_hung G hr, r_Lhung⟩
theorem c__law_number (G : Glo K w mg) (D : Df K mg "_law_number" ["_law_thing", "_law_most"] (top 112)) : Cl P w K mg base "_law_number" ["_law_thing", "_law_most"] 1 p_Lnumber :=
  D.cl sc__law_number (fun ds k ⟨_, _, e, _⟩ => by rw [e]; rfl) fun f cdv A outer s H E hr => ⟨_, w__law_number G hr, r_Lnumber⟩
theorem c_made_rooms (G : Glo K w mg) (D : Df K mg "made_rooms" ["thing"] (top 18)) (c_is_whole : Cl P w K mg base "is_whole" ["value"] 1 p_is_whole) : Cl P w K mg base "made_rooms" ["thing"] 2 p_made_rooms :=
  D.cl sc_made_rooms (fun ds k ⟨_, e, _⟩ => by rw [e]; rfl) fun f cdv A outer s H E hr => ⟨_, w_made_rooms G c_is_whole hr, r_made_rooms⟩
theorem c_is_rooms (G : Glo K w mg) (D : Df K mg "is_rooms" ["thing"] (top 19)) (c_is_whole : Cl P w K mg base "is_whole" ["value"] 1 p_is_whole) : Cl P w K mg base "is_rooms" ["thing"] 2 p_is_rooms :=
  D.cl sc_is_rooms (fun ds k ⟨_, e, _⟩ => by rw [e]; rfl) fun f cdv A outer s H E hr => ⟨_, w_is_rooms G c_is_whole hr, r_is_rooms⟩
theorem c_is_thing (G : Glo K w mg) (D : Df K mg "is_thing" ["rooms", "x"] (top 20)) (c_is_whole : Cl P w K mg base "is_whole" ["value"] 1 p_is_whole) : Cl P w K mg base "is_thing" ["rooms", "x"] 2 p_is_thing :=
  D.cl sc_is_thing (fun ds k ⟨_, _, e, _⟩ => by rw [e]; rfl) fun f cdv A outer s H E hr => ⟨_, w_is_thing G c_is_whole hr, r_is_thing⟩
theorem c_is_place (G : Glo K w mg) (D : Df K mg "is_place" ["rooms", "x", "place"] (top 22)) (c_is_whole : Cl P w K mg base "is_whole" ["value"] 1 p_is_whole) : Cl P w K mg base "is_place" ["rooms", "x", "place"] 2 p_is_place :=
  D.cl sc_is_place (fun ds k ⟨_, _, _, e, _⟩ => by rw [e]; rfl) fun f cdv A outer s H E hr => ⟨_, w_is_place G c_is_whole hr, r_is_place⟩
theorem c_first_ring (G : Glo K w mg) (D : Df K mg "first_ring" ["forest"] (top 25)) (c_lies_in_itself : Cl P w K mg base "lies_in_itself" ["forest", "x"] 1 p_lies_in_itself) : Cl P w K mg base "first_ring" ["forest"] 2 p_first_ring :=
  D.cl sc_first_ring (fun ds k ⟨_, _, e, _⟩ => by rw [e]; rfl) fun f cdv A outer s H E hr => ⟨_, w_first_ring G c_lies_in_itself hr, r_first_ring⟩
theorem c_within (G : Glo K w mg) (D : Df K mg "within" ["forest", "x"] (top 30)) (c_around : Cl P w K mg base "around" ["forest", "x"] 1 p_around) : Cl P w K mg base "within" ["forest", "x"] 2 p_within :=
  D.cl sc_within (fun ds k ⟨_, _, _, e, _⟩ => by rw [e]; rfl) fun f cdv A outer s H E hr => ⟨_, w_within G c_around hr, r_within⟩
theorem c_is_standing (G : Glo K w mg) (D : Df K mg "is_standing" ["rooms", "x", "y", "thing"] (top 36)) (c_is_whole : Cl P w K mg base "is_whole" ["value"] 1 p_is_whole) (c_all_standings : Cl P w K mg base "all_standings" ["rooms", "x", "y"] 1 p_all_standings) : Cl P w K mg base "is_standing" ["rooms", "x", "y", "thing"] 2 p_is_standing :=
  D.cl sc_is_standing (fun ds k ⟨_, _, _, _, e, _⟩ => by rw [e]; rfl) fun f cdv A outer s H E hr => ⟨_, w_is_standing G c_is_whole c_all_standings hr, r_is_standing⟩
theorem c_standing_in (G : Glo K w mg) (D : Df K mg "standing_in" ["forest", "x", "y"] (top 38)) (c_room_way : Cl P w K mg base "room_way" ["forest", "x", "y"] 1 p_room_way) : Cl P w K mg base "standing_in" ["forest", "x", "y"] 2 p_standing_in :=
  D.cl sc_standing_in (fun ds k ⟨_, _, _, _, e, _⟩ => by rw [e]; rfl) fun f cdv A outer s H E hr => ⟨_, w_standing_in G c_room_way hr, r_standing_in⟩
theorem c_turned_lets (G : Glo K w mg) (D : Df K mg "turned_lets" ["lets"] (top 42)) (c_turned : Cl P w K mg base "turned" ["standing"] 1 p_turned) : Cl P w K mg base "turned_lets" ["lets"] 2 p_turned_lets :=
  D.cl sc_turned_lets (fun ds k ⟨_, e, _⟩ => by rw [e]; rfl) fun f cdv A outer s H E hr => ⟨_, w_turned_lets G c_turned hr, r_turned_lets⟩
theorem c_parts_in (G : Glo K w mg) (D : Df K mg "parts_in" ["world", "lot"] (top 58)) (c_reached : Cl P w K mg base "reached" ["near", "lot", "start"] 1 p_reached) : Cl P w K mg base "parts_in" ["world", "lot"] 2 p_parts_in :=
  D.cl sc_parts_in (fun ds k ⟨_, _, _, e, _⟩ => by rw [e]; rfl) fun f cdv A outer s H E hr => ⟨_, w_parts_in G c_reached hr, r_parts_in⟩
theorem c_over_in (G : Glo K w mg) (D : Df K mg "over_in" ["world", "t", "part"] (top 61)) (c_shut_out : Cl P w K mg base "shut_out" ["world", "t", "room", "part"] 1 p_shut_out) : Cl P w K mg base "over_in" ["world", "t", "part"] 2 p_over_in :=
  D.cl sc_over_in (fun ds k ⟨_, _, _, _, e, _⟩ => by rw [e]; rfl) fun f cdv A outer s H E hr => ⟨_, w_over_in G c_shut_out hr, r_over_in⟩
theorem c_all_put (G : Glo K w mg) (D : Df K mg "all_put" ["forest", "row"] (top 78)) (c_put : Cl P w K mg base "put" ["forest", "x", "place"] 1 p_put) : Cl P w K mg base "all_put" ["forest", "row"] 2 p_all_put :=
  D.cl sc_all_put (fun ds k ⟨_, _, e, _⟩ => by rw [e]; rfl) fun f cdv A outer s H E hr => ⟨_, w_all_put G c_put hr, r_all_put⟩
theorem c_is_deed (G : Glo K w mg) (D : Df K mg "is_deed" ["thing"] (top 80)) (c_is_whole : Cl P w K mg base "is_whole" ["value"] 1 p_is_whole) : Cl P w K mg base "is_deed" ["thing"] 2 p_is_deed :=
  D.cl sc_is_deed (fun ds k ⟨_, e, _⟩ => by rw [e]; rfl) fun f cdv A outer s H E hr => ⟨_, w_is_deed G c_is_whole hr, r_is_deed⟩
theorem c__law_one (G : Glo K w mg) (D : Df K mg "_law_one" ["_law_source", "_law_things"] (top 91)) (c__law_take : Cl1 P w K mg base "_law_take" ["_law_source", "_law_top"] 1 p_Ltake) : Cl1 P w K mg base "_law_one" ["_law_source", "_law_things"] 2 p_Lone :=
  D.cl1 sc__law_one (fun s ds k ⟨_, _, _, _, _, _, e, _⟩ => by rw [e]; rfl) fun f cdv A outer s H E hr => ⟨_, w__law_one G c__law_take hr, r_Lone⟩
theorem c__law_mixed (G : Glo K w mg) (D : Df K mg "_law_mixed" ["_law_source", "_law_things"] (top 92)) (c__law_take : Cl1 P w K mg base "_law_take" ["_law_source", "_law_top"] 1 p_Ltake) : Cl1 P w K mg base "_law_mixed" ["_law_source", "_law_things"] 2 p_Lmixed :=
  D.cl1 sc__law_mixed (fun s ds k ⟨_, _, _, _, _, e, _⟩ => by rw [e]; rfl) fun f cdv A outer s H E hr => ⟨_, w__law_mixed G c__law_take hr, r_Lmixed⟩
theorem c__law_standing (G : Glo K w mg) (D : Df K mg "_law_standing" ["_law_forest", "_law_x", "_law_y"] (top 96)) (c__law_climb : Cl P w K mg base "_law_climb" ["_law_forest", "_law_x"] 1 p_Lclimb) : Cl P w K mg base "_law_standing" ["_law_forest", "_law_x", "_law_y"] 2 p_Lstanding :=
  D.cl sc__law_standing (fun ds k ⟨_, _, _, e, _⟩ => by rw [e]; rfl) fun f cdv A outer s H E hr => ⟨_, w__law_standing G c__law_climb hr, r_Lstanding⟩
theorem c__law_table (G : Glo K w mg) (D : Df K mg "_law_table" ["_law_rooms", "_law_sayings"] (top 99)) (c__law_every : Cl P w K mg base "_law_every" ["_law_rooms", "_law_x", "_law_y"] 1 p_Levery) (c__law_turned : Cl P w K mg base "_law_turned" ["_law_standing_here"] 1 p_Lturned) : Cl P w K mg base "_law_table" ["_law_rooms", "_law_sayings"] 2 p_Ltable :=
  D.cl sc__law_table (fun ds k ⟨_, _, e, _⟩ => by rcases e with e | e <;> (rw [e]; rfl)) fun f cdv A outer s H E hr => ⟨_, w__law_table G c__law_every c__law_turned hr, r_Ltable⟩
theorem c__law_free (G : Glo K w mg) (D : Df K mg "_law_free" ["_law_rooms", "_law_table_here", "_law_lot"] (top 104)) (c__law_parts : Cl P w K mg base "_law_parts" ["_law_table_here", "_law_lot"] 1 p_Lparts) (c__law_less : Cl P w K mg base "_law_less" ["_law_lot", "_law_t"] 1 p_Lless) (c__law_over : Cl P w K mg base "_law_over" ["_law_rooms", "_law_table_here", "_law_t", "_law_part"] 1 p_Lover) : Cl P w K mg base "_law_free" ["_law_rooms", "_law_table_here", "_law_lot"] 2 p_Lfree :=
  D.cl sc__law_free (fun ds k ⟨_, _, _, e, _⟩ => by rcases e with e | e <;> (rw [e]; rfl)) fun f cdv A outer s H E hr => ⟨_, w__law_free G c__law_parts c__law_less c__law_over hr, r_Lfree⟩
theorem c__law_beneath (G : Glo K w mg) (D : Df K mg "_law_beneath" ["_law_forest", "_law_x"] (top 105)) (c__law_climb : Cl P w K mg base "_law_climb" ["_law_forest", "_law_x"] 1 p_Lclimb) : Cl P w K mg base "_law_beneath" ["_law_forest", "_law_x"] 2 p_Lbeneath :=
  D.cl sc__law_beneath (fun ds k ⟨_, _, _, e, _⟩ => by rw [e]; rfl) fun f cdv A outer s H E hr => ⟨_, w__law_beneath G c__law_climb hr, r_Lbeneath⟩
theorem c__law_part_of (G : Glo K w mg) (D : Df K mg "_law_part_of" ["_law_table_here", "_law_lot", "_law_t"] (top 107)) (c__law_parts : Cl P w K mg base "_law_parts" ["_law_table_here", "_law_lot"] 1 p_Lparts) : Cl P w K mg base "_law_part_of" ["_law_table_here", "_law_lot", "_law_t"] 2 p_Lpart_of :=
  D.cl sc__law_part_of (fun ds k ⟨_, _, _, _, e, _⟩ => by rw [e]; rfl) fun f cdv A outer s H E hr => ⟨_, w__law_part_of G c__law_parts hr, r_Lpart_of⟩
theorem c__law_is_forest (G : Glo K w mg) (D : Df K mg "_law_is_forest" ["_law_rooms", "_law_forest"] (top 113)) (c__law_number : Cl P w K mg base "_law_number" ["_law_thing", "_law_most"] 1 p_Lnumber) (c__law_climb : Cl P w K mg base "_law_climb" ["_law_forest", "_law_x"] 1 p_Lclimb) : Cl P w K mg base "_law_is_forest" ["_law_rooms", "_law_forest"] 2 p_Lis_forest :=
  D.cl sc__law_is_forest (fun ds k ⟨_, _, e, _⟩ => by rw [e]; rfl) fun f cdv A outer s H E hr => ⟨_, w__law_is_forest G c__law_number c__law_climb hr, r_Lis_forest⟩
theorem c_first_bad (G : Glo K w mg) (D : Df K mg "first_bad" ["rooms", "forest"] (top 24)) (c_is_place : Cl P w K mg base "is_place" ["rooms", "x", "place"] 2 p_is_place) : Cl P w K mg base "first_bad" ["rooms", "forest"] 3 p_first_bad :=
  D.cl sc_first_bad (fun ds k ⟨_, _, e, _⟩ => by rw [e]; rfl) fun f cdv A outer s H E hr => ⟨_, w_first_bad G c_is_place hr, r_first_bad⟩
theorem c_is_lets (G : Glo K w mg) (D : Df K mg "is_lets" ["rooms", "x", "y", "lets"] (top 40)) (c_allZ : Cl P w K mg base "all_standings" ["rooms", "x", "y"] 1 p_allZ) (c_is_standing : Cl P w K mg base "is_standing" ["rooms", "x", "y", "thing"] 2 p_is_standing) : Cl P w K mg base "is_lets" ["rooms", "x", "y", "lets"] 3 p_is_lets :=
  D.cl sc_is_lets (fun ds k ⟨_, _, _, _, e, _⟩ => by rw [e]; rfl) fun f cdv A outer s H E hr => ⟨_, w_is_lets G c_allZ c_is_standing hr, r_is_lets⟩
theorem c_all_lets (G : Glo K w mg) (D : Df K mg "all_lets" ["book"] (top 50)) (c_all_standings : Cl P w K mg base "all_standings" ["rooms", "x", "y"] 1 p_all_standings) (c_common_lets : Cl P w K mg base "common_lets" ["one", "other"] 1 p_common_lets) (c_turned_lets : Cl P w K mg base "turned_lets" ["lets"] 2 p_turned_lets) : Cl P w K mg base "all_lets" ["book"] 3 p_all_lets :=
  D.cl sc_all_lets (fun ds k ⟨_, _, e, _⟩ => by rw [e]; rfl) fun f cdv A outer s H E hr => ⟨_, w_all_lets G c_all_standings c_common_lets c_turned_lets hr, r_all_lets⟩
theorem c_first_broken (G : Glo K w mg) (D : Df K mg "first_broken" ["book", "forest"] (top 51)) (c_standing_in : Cl P w K mg base "standing_in" ["forest", "x", "y"] 2 p_standing_in) : Cl P w K mg base "first_broken" ["book", "forest"] 3 p_first_broken :=
  D.cl sc_first_broken (fun ds k ⟨_, _, _, e, _⟩ => by rw [e]; rfl) fun f cdv A outer s H E hr => ⟨_, w_first_broken G c_standing_in hr, r_first_broken⟩
theorem c_stuck_part (G : Glo K w mg) (D : Df K mg "stuck_part" ["world", "lot", "t"] (top 62)) (c_parts_in : Cl P w K mg base "parts_in" ["world", "lot"] 2 p_parts_in) (c_without : Cl P w K mg base "without" ["lot", "t"] 1 p_without) (c_over_in : Cl P w K mg base "over_in" ["world", "t", "part"] 2 p_over_in) : Cl P w K mg base "stuck_part" ["world", "lot", "t"] 3 p_stuck_part :=
  D.cl sc_stuck_part (fun ds k ⟨_, _, _, _, e, _⟩ => by rw [e]; rfl) fun f cdv A outer s H E hr => ⟨_, w_stuck_part G c_parts_in c_without c_over_in hr, r_stuck_part⟩
theorem c_with_beneath (G : Glo K w mg) (D : Df K mg "with_beneath" ["forest", "x"] (top 65)) (c_within : Cl P w K mg base "within" ["forest", "x"] 2 p_within) : Cl P w K mg base "with_beneath" ["forest", "x"] 3 p_with_beneath :=
  D.cl sc_with_beneath (fun ds k ⟨_, _, _, e, _⟩ => by rw [e]; rfl) fun f cdv A outer s H E hr => ⟨_, w_with_beneath G c_within hr, r_with_beneath⟩
theorem c_stands_let (G : Glo K w mg) (D : Df K mg "stands_let" ["world", "forest"] (top 67)) (c_standing_in : Cl P w K mg base "standing_in" ["forest", "x", "y"] 2 p_standing_in) : Cl P w K mg base "stands_let" ["world", "forest"] 3 p_stands_let :=
  D.cl sc_stands_let (fun ds k ⟨_, _, _, e, _⟩ => by rw [e]; rfl) fun f cdv A outer s H E hr => ⟨_, w_stands_let G c_standing_in hr, r_stands_let⟩
theorem c_part_with (G : Glo K w mg) (D : Df K mg "part_with" ["world", "lot", "x"] (top 71)) (c_parts_in : Cl P w K mg base "parts_in" ["world", "lot"] 2 p_parts_in) : Cl P w K mg base "part_with" ["world", "lot", "x"] 3 p_part_with :=
  D.cl sc_part_with (fun ds k ⟨_, _, _, _, e, _⟩ => by rw [e]; rfl) fun f cdv A outer s H E hr => ⟨_, w_part_with G c_parts_in hr, r_part_with⟩
theorem c__law_grown (G : Glo K w mg) (D : Df K mg "_law_grown" ["_law_source", "_law_rooms"] (top 93)) (c__law_mixed : Cl1 P w K mg base "_law_mixed" ["_law_source", "_law_things"] 2 p_Lmixed) (c__law_take : Cl1 P w K mg base "_law_take" ["_law_source", "_law_top"] 1 p_Ltake) (c__law_one : Cl1 P w K mg base "_law_one" ["_law_source", "_law_things"] 2 p_Lone) : Cl1 P w K mg base "_law_grown" ["_law_source", "_law_rooms"] 3 p_Lgrown :=
  D.cl1 sc__law_grown (fun s ds k ⟨_, _, _, _, _, e, _⟩ => by rw [e]; rfl) fun f cdv A outer s H E hr => ⟨_, w__law_grown G c__law_mixed c__law_take c__law_one hr, r_Lgrown⟩
theorem c__law_saying (G : Glo K w mg) (D : Df K mg "_law_saying" ["_law_source", "_law_rooms", "_law_forest"] (top 94)) (c__law_take : Cl1 P w K mg base "_law_take" ["_law_source", "_law_top"] 1 p_Ltake) (c__law_standing : Cl P w K mg base "_law_standing" ["_law_forest", "_law_x", "_law_y"] 2 p_Lstanding) (c__law_every : Cl P w K mg base "_law_every" ["_law_rooms", "_law_x", "_law_y"] 1 p_Levery) : Cl1 P w K mg base "_law_saying" ["_law_source", "_law_rooms", "_law_forest"] 3 p_Lsaying :=
  D.cl1 sc__law_saying (fun s ds k ⟨_, _, _, _, _, _, e, _⟩ => by rw [e]; rfl) fun f cdv A outer s H E hr => ⟨_, w__law_saying G c__law_take c__law_standing c__law_every hr, r_Lsaying⟩
theorem c__law_kept (G : Glo K w mg) (D : Df K mg "_law_kept" ["_law_table_here", "_law_forest"] (top 100)) (c__law_standing : Cl P w K mg base "_law_standing" ["_law_forest", "_law_x", "_law_y"] 2 p_Lstanding) : Cl P w K mg base "_law_kept" ["_law_table_here", "_law_forest"] 3 p_Lkept :=
  D.cl sc__law_kept (fun ds k ⟨_, _, _, e, _⟩ => by rw [e]; rfl) fun f cdv A outer s H E hr => ⟨_, w__law_kept G c__law_standing hr, r_Lkept⟩
theorem c__law_deeds (G : Glo K w mg) (D : Df K mg "_law_deeds" ["_law_rooms", "_law_table_here", "_law_forest"] (top 108)) (c__law_beneath : Cl P w K mg base "_law_beneath" ["_law_forest", "_law_x"] 2 p_Lbeneath) (c__law_free : Cl P w K mg base "_law_free" ["_law_rooms", "_law_table_here", "_law_lot"] 2 p_Lfree) (c__law_part_of : Cl P w K mg base "_law_part_of" ["_law_table_here", "_law_lot", "_law_t"] 2 p_Lpart_of) (c__law_less : Cl P w K mg base "_law_less" ["_law_lot", "_law_t"] 1 p_Lless) (c__law_over : Cl P w K mg base "_law_over" ["_law_rooms", "_law_table_here", "_law_t", "_law_part"] 1 p_Lover) : Cl P w K mg base "_law_deeds" ["_law_rooms", "_law_table_here", "_law_forest"] 3 p_Ldeeds :=
  D.cl sc__law_deeds (fun ds k ⟨_, _, _, e, _⟩ => by rw [e]; rfl) fun f cdv A outer s H E hr => ⟨_, w__law_deeds G c__law_beneath c__law_free c__law_part_of c__law_less c__law_over hr, r_Ldeeds⟩
theorem c__law_hangs (G : Glo K w mg) (D : Df K mg "_law_hangs" ["_law_table_here", "_law_forest", "_law_deed"] (top 109)) (c__law_part_of : Cl P w K mg base "_law_part_of" ["_law_table_here", "_law_lot", "_law_t"] 2 p_Lpart_of) (c__law_less : Cl P w K mg base "_law_less" ["_law_lot", "_law_t"] 1 p_Lless) (c__law_beneath : Cl P w K mg base "_law_beneath" ["_law_forest", "_law_x"] 2 p_Lbeneath) : Cl P w K mg base "_law_hangs" ["_law_table_here", "_law_forest", "_law_deed"] 3 p_Lhangs :=
  D.cl sc__law_hangs (fun ds k ⟨_, _, _, _, _, _, e, _⟩ => by rw [e]; rfl) fun f cdv A outer s H E hr => ⟨_, w__law_hangs G c__law_part_of c__law_less c__law_beneath hr, r_Lhangs⟩
theorem c__law_least_made (G : Glo K w mg) (D : Df K mg "_law_least_made" ["_law_source", "_law_rooms", "_law_table_here"] (top 114)) (c__law_parts : Cl P w K mg base "_law_parts" ["_law_table_here", "_law_lot"] 1 p_Lparts) (c__law_one : Cl1 P w K mg base "_law_one" ["_law_source", "_law_things"] 2 p_Lone) (c__law_free : Cl P w K mg base "_law_free" ["_law_rooms", "_law_table_here", "_law_lot"] 2 p_Lfree) (c__law_less : Cl P w K mg base "_law_less" ["_law_lot", "_law_t"] 1 p_Lless) (c__law_over : Cl P w K mg base "_law_over" ["_law_rooms", "_law_table_here", "_law_t", "_law_part"] 1 p_Lover) : Cl1 P w K mg base "_law_least_made" ["_law_source", "_law_rooms", "_law_table_here"] 3 p_Lleast_made :=
  D.cl1 sc__law_least_made (fun s ds k ⟨_, _, _, _, _, _, _, e, _⟩ => by rw [e]; rfl) fun f cdv A outer s H E hr => ⟨_, w__law_least_made G c__law_parts c__law_one c__law_free c__law_less c__law_over hr, r_Lleast_made⟩
theorem c_made_forest (G : Glo K w mg) (D : Df K mg "made_forest" ["rooms", "forest"] (top 26)) (c_made_rooms : Cl P w K mg base "made_rooms" ["thing"] 2 p_made_rooms) (c_first_bad : Cl P w K mg base "first_bad" ["rooms", "forest"] 3 p_first_bad) (c_first_ring : Cl P w K mg base "first_ring" ["forest"] 2 p_first_ring) : Cl P w K mg base "made_forest" ["rooms", "forest"] 4 p_made_forest :=
  D.cl sc_made_forest (fun ds k ⟨_, _, e, _⟩ => by rw [e]; rfl) fun f cdv A outer s H E hr => ⟨_, w_made_forest G c_made_rooms c_first_bad c_first_ring hr, r_made_forest⟩
theorem c_is_forest (G : Glo K w mg) (D : Df K mg "is_forest" ["rooms", "forest"] (top 27)) (c_is_rooms : Cl P w K mg base "is_rooms" ["thing"] 2 p_is_rooms) (c_first_bad : Cl P w K mg base "first_bad" ["rooms", "forest"] 3 p_first_bad) (c_first_ring : Cl P w K mg base "first_ring" ["forest"] 2 p_first_ring) : Cl P w K mg base "is_forest" ["rooms", "forest"] 4 p_is_forest :=
  D.cl sc_is_forest (fun ds k ⟨_, _, e, _⟩ => by rw [e]; rfl) fun f cdv A outer s H E hr => ⟨_, w_is_forest G c_is_rooms c_first_bad c_first_ring hr, r_is_forest⟩
theorem c_says_right (G : Glo K w mg) (D : Df K mg "says_right" ["rooms", "saying"] (top 41)) (c_is_thing : Cl P w K mg base "is_thing" ["rooms", "x"] 2 p_is_thing) (c_is_lets : Cl P w K mg base "is_lets" ["rooms", "x", "y", "lets"] 3 p_is_lets) : Cl P w K mg base "says_right" ["rooms", "saying"] 4 p_says_right :=
  D.cl sc_says_right (fun ds k ⟨_, _, e, _⟩ => by rw [e]; rfl) fun f cdv A outer s H E hr => ⟨_, w_says_right G c_is_thing c_is_lets hr, r_says_right⟩
theorem c_world_of (G : Glo K w mg) (D : Df K mg "world_of" ["book"] (top 55)) (c_all_lets : Cl P w K mg base "all_lets" ["book"] 3 p_all_lets) (c_near_of : Cl P w K mg base "near_of" ["rooms", "lets"] 1 p_near_of) : Cl P w K mg base "world_of" ["book"] 4 p_world_of :=
  D.cl sc_world_of (fun ds k ⟨_, _, e, _⟩ => by rw [e]; rfl) fun f cdv A outer s H E hr => ⟨_, w_world_of G c_all_lets c_near_of hr, r_world_of⟩
theorem c_free_in (G : Glo K w mg) (D : Df K mg "free_in" ["world", "lot"] (top 63)) (c_stuck_part : Cl P w K mg base "stuck_part" ["world", "lot", "t"] 3 p_stuck_part) : Cl P w K mg base "free_in" ["world", "lot"] 4 p_free_in :=
  D.cl sc_free_in (fun ds k ⟨_, _, _, e, _⟩ => by rw [e]; rfl) fun f cdv A outer s H E hr => ⟨_, w_free_in G c_stuck_part hr, r_free_in⟩
theorem c_hangs_whole (G : Glo K w mg) (D : Df K mg "hangs_whole" ["world", "forest"] (top 66)) (c_with_beneath : Cl P w K mg base "with_beneath" ["forest", "x"] 3 p_with_beneath) (c_parts_in : Cl P w K mg base "parts_in" ["world", "lot"] 2 p_parts_in) : Cl P w K mg base "hangs_whole" ["world", "forest"] 4 p_hangs_whole :=
  D.cl sc_hangs_whole (fun ds k ⟨_, _, _, e, _⟩ => by rw [e]; rfl) fun f cdv A outer s H E hr => ⟨_, w_hangs_whole G c_with_beneath c_parts_in hr, r_hangs_whole⟩
theorem c_part_of_holder (G : Glo K w mg) (D : Df K mg "part_of_holder" ["world", "forest", "x"] (top 72)) (c_part_with : Cl P w K mg base "part_with" ["world", "lot", "x"] 3 p_part_with) (c_without : Cl P w K mg base "without" ["lot", "t"] 1 p_without) (c_with_beneath : Cl P w K mg base "with_beneath" ["forest", "x"] 3 p_with_beneath) : Cl P w K mg base "part_of_holder" ["world", "forest", "x"] 4 p_part_of_holder :=
  D.cl sc_part_of_holder (fun ds k ⟨_, _, _, _, _, _, e, _⟩ => by rw [e]; rfl) fun f cdv A outer s H E hr => ⟨_, w_part_of_holder G c_part_with c_without c_with_beneath hr, r_part_of_holder⟩
theorem c_shift_rooms (G : Glo K w mg) (D : Df K mg "shift_rooms" ["world", "forest", "x"] (top 75)) (c_over_in : Cl P w K mg base "over_in" ["world", "t", "part"] 2 p_over_in) (c_with_beneath : Cl P w K mg base "with_beneath" ["forest", "x"] 3 p_with_beneath) : Cl P w K mg base "shift_rooms" ["world", "forest", "x"] 4 p_shift_rooms :=
  D.cl sc_shift_rooms (fun ds k ⟨_, _, _, _, _, _, e, _⟩ => by rw [e]; rfl) fun f cdv A outer s H E hr => ⟨_, w_shift_rooms G c_over_in c_with_beneath hr, r_shift_rooms⟩
theorem c__law_is_least (G : Glo K w mg) (D : Df K mg "_law_is_least" ["_law_rooms", "_law_table_here", "_law_forest"] (top 106)) (c__law_is_forest : Cl P w K mg base "_law_is_forest" ["_law_rooms", "_law_forest"] 2 p_Lis_forest) (c__law_kept : Cl P w K mg base "_law_kept" ["_law_table_here", "_law_forest"] 3 p_Lkept) (c__law_parts : Cl P w K mg base "_law_parts" ["_law_table_here", "_law_lot"] 1 p_Lparts) (c__law_beneath : Cl P w K mg base "_law_beneath" ["_law_forest", "_law_x"] 2 p_Lbeneath) : Cl P w K mg base "_law_is_least" ["_law_rooms", "_law_table_here", "_law_forest"] 4 p_Lis_least :=
  D.cl sc__law_is_least (fun ds k ⟨_, _, _, e, _⟩ => by rw [e]; rfl) fun f cdv A outer s H E hr => ⟨_, w__law_is_least G c__law_is_forest c__law_kept c__law_parts c__law_beneath hr, r_Lis_least⟩
theorem c__law_behind (G : Glo K w mg) (D : Df K mg "_law_behind" ["_law_table_here", "_law_forest", "_law_deed"] (top 111)) (c__law_hangs : Cl P w K mg base "_law_hangs" ["_law_table_here", "_law_forest", "_law_deed"] 3 p_Lhangs) (c__law_hung : Cl P w K mg base "_law_hung" ["_law_forest", "_law_x", "_law_place"] 1 p_Lhung) : Cl P w K mg base "_law_behind" ["_law_table_here", "_law_forest", "_law_deed"] 4 p_Lbehind :=
  D.cl sc__law_behind (fun ds k ⟨_, _, _, _, _, _, e, _⟩ => by rw [e]; rfl) fun f cdv A outer s H E hr => ⟨_, w__law_behind G c__law_hangs c__law_hung hr, r_Lbehind⟩
theorem c__law_kept_saying (G : Glo K w mg) (D : Df K mg "_law_kept_saying" ["_law_source", "_law_rooms", "_law_forest"] (top 116)) (c__law_saying : Cl1 P w K mg base "_law_saying" ["_law_source", "_law_rooms", "_law_forest"] 3 p_Lsaying) (c__law_standing : Cl P w K mg base "_law_standing" ["_law_forest", "_law_x", "_law_y"] 2 p_Lstanding) (c__law_every : Cl P w K mg base "_law_every" ["_law_rooms", "_law_x", "_law_y"] 1 p_Levery) : Cl1 P w K mg base "_law_kept_saying" ["_law_source", "_law_rooms", "_law_forest"] 4 p_Lkept_saying :=
  D.cl1 sc__law_kept_saying (fun s ds k ⟨_, _, _, _, _, _, e, _⟩ => by rw [e]; rfl) fun f cdv A outer s H E hr => ⟨_, w__law_kept_saying G c__law_saying c__law_standing c__law_every hr, r_Lkept_saying⟩
theorem c_first_wrong (G : Glo K w mg) (D : Df K mg "first_wrong" ["rooms", "sayings"] (top 46)) (c_says_right : Cl P w K mg base "says_right" ["rooms", "saying"] 4 p_says_right) : Cl P w K mg base "first_wrong" ["rooms", "sayings"] 5 p_first_wrong :=
  D.cl sc_first_wrong (fun ds k ⟨_, _, e, _⟩ => by rw [e]; rfl) fun f cdv A outer s H E hr => ⟨_, w_first_wrong G c_says_right hr, r_first_wrong⟩
theorem c_is_least (G : Glo K w mg) (D : Df K mg "is_least" ["world", "forest"] (top 68)) (c_stands_let : Cl P w K mg base "stands_let" ["world", "forest"] 3 p_stands_let) (c_hangs_whole : Cl P w K mg base "hangs_whole" ["world", "forest"] 4 p_hangs_whole) : Cl P w K mg base "is_least" ["world", "forest"] 5 p_is_least :=
  D.cl sc_is_least (fun ds k ⟨_, _, _, e, _⟩ => by rw [e]; rfl) fun f cdv A outer s H E hr => ⟨_, w_is_least G c_stands_let c_hangs_whole hr, r_is_least⟩
theorem c_is_free_there (G : Glo K w mg) (D : Df K mg "is_free_there" ["world", "forest", "x"] (top 73)) (c_free_in : Cl P w K mg base "free_in" ["world", "lot"] 4 p_free_in) (c_with_beneath : Cl P w K mg base "with_beneath" ["forest", "x"] 3 p_with_beneath) : Cl P w K mg base "is_free_there" ["world", "forest", "x"] 5 p_is_free_there :=
  D.cl sc_is_free_there (fun ds k ⟨_, _, _, _, _, _, e, _⟩ => by rw [e]; rfl) fun f cdv A outer s H E hr => ⟨_, w_is_free_there G c_free_in c_with_beneath hr, r_is_free_there⟩
theorem c_turn_rooms (G : Glo K w mg) (D : Df K mg "turn_rooms" ["world", "forest", "x"] (top 74)) (c_over_in : Cl P w K mg base "over_in" ["world", "t", "part"] 2 p_over_in) (c_part_of_holder : Cl P w K mg base "part_of_holder" ["world", "forest", "x"] 4 p_part_of_holder) : Cl P w K mg base "turn_rooms" ["world", "forest", "x"] 5 p_turn_rooms :=
  D.cl sc_turn_rooms (fun ds k ⟨_, _, _, _, _, _, e, _⟩ => by rw [e]; rfl) fun f cdv A outer s H E hr => ⟨_, w_turn_rooms G c_over_in c_part_of_holder hr, r_turn_rooms⟩
theorem c_turn_hangs (G : Glo K w mg) (D : Df K mg "turn_hangs" ["world", "forest", "x", "room"] (top 76)) (c_part_of_holder : Cl P w K mg base "part_of_holder" ["world", "forest", "x"] 4 p_part_of_holder) : Cl P w K mg base "turn_hangs" ["world", "forest", "x", "room"] 5 p_turn_hangs :=
  D.cl sc_turn_hangs (fun ds k ⟨_, _, _, _, _, _, _, e, _⟩ => by rw [e]; rfl) fun f cdv A outer s H E hr => ⟨_, w_turn_hangs G c_part_of_holder hr, r_turn_hangs⟩
theorem c_made_book (G : Glo K w mg) (D : Df K mg "made_book" ["thing"] (top 47)) (c_is_pair : Cl P w K mg base "is_pair" ["thing"] 1 p_is_pair) (c_made_rooms : Cl P w K mg base "made_rooms" ["thing"] 2 p_made_rooms) (c_first_wrong : Cl P w K mg base "first_wrong" ["rooms", "sayings"] 5 p_first_wrong) : Cl P w K mg base "made_book" ["thing"] 6 p_made_book :=
  D.cl sc_made_book (fun ds k ⟨_, _, e, _⟩ => by rw [e]; rfl) fun f cdv A outer s H E hr => ⟨_, w_made_book G c_is_pair c_made_rooms c_first_wrong hr, r_made_book⟩
theorem c_is_book (G : Glo K w mg) (D : Df K mg "is_book" ["thing"] (top 48)) (c_is_pair : Cl P w K mg base "is_pair" ["thing"] 1 p_is_pair) (c_is_rooms : Cl P w K mg base "is_rooms" ["thing"] 2 p_is_rooms) (c_first_wrong : Cl P w K mg base "first_wrong" ["rooms", "sayings"] 5 p_first_wrong) : Cl P w K mg base "is_book" ["thing"] 6 p_is_book :=
  D.cl sc_is_book (fun ds k ⟨_, _, e, _⟩ => by rw [e]; rfl) fun f cdv A outer s H E hr => ⟨_, w_is_book G c_is_pair c_is_rooms c_first_wrong hr, r_is_book⟩
theorem c_deed_hangs (G : Glo K w mg) (D : Df K mg "deed_hangs" ["world", "forest", "deed"] (top 77)) (c_turn_hangs : Cl P w K mg base "turn_hangs" ["world", "forest", "x", "room"] 5 p_turn_hangs) : Cl P w K mg base "deed_hangs" ["world", "forest", "deed"] 6 p_deed_hangs :=
  D.cl sc_deed_hangs (fun ds k ⟨_, _, _, _, _, _, e, _⟩ => by rw [e]; rfl) fun f cdv A outer s H E hr => ⟨_, w_deed_hangs G c_turn_hangs hr, r_deed_hangs⟩
theorem c_want_granted (G : Glo K w mg) (D : Df K mg "want_granted" ["world", "forest", "deed"] (top 81)) (c_is_deed : Cl P w K mg base "is_deed" ["thing"] 2 p_is_deed) (c_is_thing : Cl P w K mg base "is_thing" ["rooms", "x"] 2 p_is_thing) (c_shift_rooms : Cl P w K mg base "shift_rooms" ["world", "forest", "x"] 4 p_shift_rooms) (c_is_free_there : Cl P w K mg base "is_free_there" ["world", "forest", "x"] 5 p_is_free_there) (c_turn_rooms : Cl P w K mg base "turn_rooms" ["world", "forest", "x"] 5 p_turn_rooms) : Cl P w K mg base "want_granted" ["world", "forest", "deed"] 6 p_want_granted :=
  D.cl sc_want_granted (fun ds k ⟨_, _, _, _, e, _⟩ => by rw [e]; rfl) fun f cdv A outer s H E hr => ⟨_, w_want_granted G c_is_deed c_is_thing c_shift_rooms c_is_free_there c_turn_rooms hr, r_want_granted⟩
theorem c_keeps (G : Glo K w mg) (D : Df K mg "keeps" ["book", "forest"] (top 52)) (c_is_book : Cl P w K mg base "is_book" ["thing"] 6 p_is_book) (c_is_forest : Cl P w K mg base "is_forest" ["rooms", "forest"] 4 p_is_forest) (c_first_broken : Cl P w K mg base "first_broken" ["book", "forest"] 3 p_first_broken) : Cl P w K mg base "keeps" ["book", "forest"] 7 p_keeps :=
  D.cl sc_keeps (fun ds k ⟨_, _, _, e, _⟩ => by rw [e]; rfl) fun f cdv A outer s H E hr => ⟨_, w_keeps G c_is_book c_is_forest c_first_broken hr, r_keeps⟩
theorem c_behind (G : Glo K w mg) (D : Df K mg "behind" ["world", "forest", "deed"] (top 79)) (c_all_put : Cl P w K mg base "all_put" ["forest", "row"] 2 p_all_put) (c_deed_hangs : Cl P w K mg base "deed_hangs" ["world", "forest", "deed"] 6 p_deed_hangs) : Cl P w K mg base "behind" ["world", "forest", "deed"] 7 p_behind :=
  D.cl sc_behind (fun ds k ⟨_, _, _, _, _, _, e, _⟩ => by rw [e]; rfl) fun f cdv A outer s H E hr => ⟨_, w_behind G c_all_put c_deed_hangs hr, r_behind⟩
theorem c_hangs (G : Glo K w mg) (D : Df K mg "hangs" ["book", "forest", "deed"] (top 82)) (c_made_book : Cl P w K mg base "made_book" ["thing"] 6 p_made_book) (c_made_forest : Cl P w K mg base "made_forest" ["rooms", "forest"] 4 p_made_forest) (c_world_of : Cl P w K mg base "world_of" ["book"] 4 p_world_of) (c_is_least : Cl P w K mg base "is_least" ["world", "forest"] 5 p_is_least) (c_want_granted : Cl P w K mg base "want_granted" ["world", "forest", "deed"] 6 p_want_granted) (c_deed_hangs : Cl P w K mg base "deed_hangs" ["world", "forest", "deed"] 6 p_deed_hangs) : Cl P w K mg base "hangs" ["book", "forest", "deed"] 7 p_hangs :=
  D.cl sc_hangs (fun ds k ⟨_, _, _, _, e, _⟩ => by rw [e]; rfl) fun f cdv A outer s H E hr => ⟨_, w_hangs G c_made_book c_made_forest c_world_of c_is_least c_want_granted c_deed_hangs hr, r_hangs⟩
theorem c_least_right (G : Glo K w mg) (D : Df K mg "least_right" ["book", "forest"] (top 69)) (c_keeps : Cl P w K mg base "keeps" ["book", "forest"] 7 p_keeps) (c_hangs_whole : Cl P w K mg base "hangs_whole" ["world", "forest"] 4 p_hangs_whole) (c_world_of : Cl P w K mg base "world_of" ["book"] 4 p_world_of) : Cl P w K mg base "least_right" ["book", "forest"] 8 p_least_right :=
  D.cl sc_least_right (fun ds k ⟨_, _, _, e, _⟩ => by rw [e]; rfl) fun f cdv A outer s H E hr => ⟨_, w_least_right G c_keeps c_hangs_whole c_world_of hr, r_least_right⟩
theorem c_after (G : Glo K w mg) (D : Df K mg "after" ["book", "forest", "deed"] (top 83)) (c_hangs : Cl P w K mg base "hangs" ["book", "forest", "deed"] 7 p_hangs) (c_all_put : Cl P w K mg base "all_put" ["forest", "row"] 2 p_all_put) (c_made_forest : Cl P w K mg base "made_forest" ["rooms", "forest"] 4 p_made_forest) : Cl P w K mg base "after" ["book", "forest", "deed"] 8 p_after :=
  D.cl sc_after (fun ds k ⟨_, _, _, _, e, _⟩ => by rw [e]; rfl) fun f cdv A outer s H E hr => ⟨_, w_after G c_hangs c_all_put c_made_forest hr, r_after⟩
theorem c_Course_do (G : Glo K w mg) (T : CTxt K mg C) (D : DfM K C "do" "Course.do" ["self", "word", "x", "room"] (inClass (top 86) 1)) (c_behind : Cl P w K mg base "behind" ["world", "forest", "deed"] 7 p_behind) : ClM P w K mg base C "do" ["self", "word", "x", "room"] 8 (p_Cdo C) :=
  D.cl sc_Course_do (fun s ds k ⟨_, _, _, _, _, _, _, _, _, _, _, e, _⟩ => by rw [e]; rfl) fun f cdv A outer s H E hr => ⟨_, w_Course_do G T c_behind hr, r_Cdo⟩
theorem c_Course_raise_in (G : Glo K w mg) (T : CTxt K mg C) (D : DfM K C "raise_in" "Course.raise_in" ["self", "part", "x"] (inClass (top 86) 2)) (c_outermost : Cl P w K mg base "outermost" ["forest", "part"] 1 p_outermost) (c_room_way : Cl P w K mg base "room_way" ["forest", "x", "y"] 1 p_room_way) (c_Course_do : ClM P w K mg base C "do" ["self", "word", "x", "room"] 8 (p_Cdo C)) : ClM P w K mg base C "raise_in" ["self", "part", "x"] 9 (p_Craise C) :=
  D.cl sc_Course_raise_in (fun s ds k ⟨_, _, _, _, _, _, _, _, _, _, e, _⟩ => by rw [e]; rfl) fun f cdv A outer s H E hr => ⟨_, w_Course_raise_in G T c_outermost c_room_way c_Course_do hr, r_Craise⟩
theorem c_walk (G : Glo K w mg) (T : CTxt K mg C) (D : Df K mg "walk" ["book", "one", "two"] (top 87)) (c_made_book : Cl P w K mg base "made_book" ["thing"] 6 p_made_book) (c_made_forest : Cl P w K mg base "made_forest" ["rooms", "forest"] 4 p_made_forest) (c_world_of : Cl P w K mg base "world_of" ["book"] 4 p_world_of) (c_is_least : Cl P w K mg base "is_least" ["world", "forest"] 5 p_is_least) (c_parts_in : Cl P w K mg base "parts_in" ["world", "lot"] 2 p_parts_in) (c_init : ClI P w K mg base C 1) (c_Course_lead : ClM P w K mg base C "lead" ["self", "part"] 17 (p_Clead C 7)) : Cl P w K mg base "walk" ["book", "one", "two"] 18 p_walk :=
  D.cl sc_walk (fun ds k ⟨_, _, _, _, e, _⟩ => by rw [e]; rfl) fun f cdv A outer s H E hr => ⟨_, w_walk G T c_made_book c_made_forest c_world_of c_is_least c_parts_in c_init c_Course_lead hr, r_walk⟩
theorem c__law_walk_right (G : Glo K w mg) (D : Df K mg "_law_walk_right" ["_law_rooms", "_law_sayings", "_law_one_here", "_law_two"] (top 115)) (c__law_table : Cl P w K mg base "_law_table" ["_law_rooms", "_law_sayings"] 2 p_Ltable) (c_walk : Cl P w K mg base "walk" ["book", "one", "two"] 18 p_walk) (c_least_right : Cl P w K mg base "least_right" ["book", "forest"] 8 p_least_right) (c__law_deeds : Cl P w K mg base "_law_deeds" ["_law_rooms", "_law_table_here", "_law_forest"] 3 p_Ldeeds) (c__law_behind : Cl P w K mg base "_law_behind" ["_law_table_here", "_law_forest", "_law_deed"] 4 p_Lbehind) (c_after : Cl P w K mg base "after" ["book", "forest", "deed"] 8 p_after) (c__law_is_least : Cl P w K mg base "_law_is_least" ["_law_rooms", "_law_table_here", "_law_forest"] 4 p_Lis_least) : ClG P w K mg base "_law_walk_right" ["_law_rooms", "_law_sayings", "_law_one_here", "_law_two"] 19 p_Lright :=
  D.clG sc__law_walk_right (fun ds k ⟨_, _, _, _, e, _⟩ => by rw [e]; rfl) fun f cdv A outer s H E hr hgu => ⟨_, w__law_walk_right G c__law_table c_walk c_least_right c__law_deeds c__law_behind c_after c__law_is_least hr hgu, r_Lright⟩
theorem c_law (G : Glo K w mg) (D : Df K mg "law" ["_law_script"] (top 117)) (c__law_walk_right : ClG P w K mg base "_law_walk_right" ["_law_rooms", "_law_sayings", "_law_one_here", "_law_two"] 19 p_Lright) (c__law_pool : ClF P w K mg base "_law_pool" ["_law_script", "_law_k"] 1 p_Lpool) (c__law_take : Cl1 P w K mg base "_law_take" ["_law_source", "_law_top"] 1 p_Ltake) (c__law_one : Cl1 P w K mg base "_law_one" ["_law_source", "_law_things"] 2 p_Lone) (c__law_grown : Cl1 P w K mg base "_law_grown" ["_law_source", "_law_rooms"] 3 p_Lgrown) (c__law_kept_saying : Cl1 P w K mg base "_law_kept_saying" ["_law_source", "_law_rooms", "_law_forest"] 4 p_Lkept_saying) (c__law_table : Cl P w K mg base "_law_table" ["_law_rooms", "_law_sayings"] 2 p_Ltable) (c__law_least_made : Cl1 P w K mg base "_law_least_made" ["_law_source", "_law_rooms", "_law_table_here"] 3 p_Lleast_made) : ClG P w K mg base "law" ["_law_script"] 20 p_law :=
  D.clG sc_law (fun ds k ⟨_, e, _⟩ => by rw [e]; rfl) fun f cdv A outer s H E hr hgu => ⟨_, w_law G c__law_walk_right c__law_pool c__law_take c__law_one c__law_grown c__law_kept_saying c__law_table c__law_least_made hr hgu, r_law⟩
end
end DL
end
section
set_option Elab.async false
set_option maxRecDepth 100000
set_option linter.all false
set_option maxHeartbeats 0
namespace DL
open PySem L2 L2.DC L2.GD MM
/-! the class: __init__, lead by its level -/
section
variable {P : Program} {w : World} {K : PySem.W.Frag} {mg : Str → Option Value} {base : Heap} {C : Addr}
abbrev s_init : Stmt := inClass (top 86) 0
abbrev N_init : List Str := ["self", "world", "here", "goal"]
theorem sc_init : FnScope N_init ["self", "world", "here", "goal"] (defScope s_init) := ⟨rfl, rfl, rfl, by decide +kernel, rfl, by decide +kernel, by decide +kernel⟩
theorem fw2 : ¬ (("world" : Str) = "goal") ∧ ¬ (("world" : Str) = "row") ∧ ¬ (("here" : Str) = "goal") ∧ ¬ (("here" : Str) = "row") ∧ ¬ (("goal" : Str) = "row") := by decide +kernel
theorem putF2 {a b : V} : putF "here" b (putF "world" a []) = [(("world" : Str), a), (("here" : Str), b)] := by
  show (if ("world" : Str) = "here" then _ else (("world" : Str), a) :: [(("here" : Str), b)]) = [(("world" : Str), a), (("here" : Str), b)]
  rw [if_neg fw.1]
theorem putF3 {a b c : V} : putF "goal" c [(("world" : Str), a), (("here" : Str), b)] = [(("world" : Str), a), (("here" : Str), b), (("goal" : Str), c)] := by
  show (if ("world" : Str) = "goal" then _ else (("world" : Str), a) :: (if ("here" : Str) = "goal" then _ else (("here" : Str), b) :: [(("goal" : Str), c)])) = [(("world" : Str), a), (("here" : Str), b), (("goal" : Str), c)]
  rw [if_neg fw2.1, if_neg fw2.2.2.1]
theorem putF4 {a b c d : V} : putF "row" d [(("world" : Str), a), (("here" : Str), b), (("goal" : Str), c)] = [(("world" : Str), a), (("here" : Str), b), (("goal" : Str), c), (("row" : Str), d)] := by
  show (if ("world" : Str) = "row" then _ else (("world" : Str), a) :: (if ("here" : Str) = "row" then _ else (("here" : Str), b) :: (if ("goal" : Str) = "row" then _ else (("goal" : Str), c) :: [(("row" : Str), d)]))) = [(("world" : Str), a), (("here" : Str), b), (("goal" : Str), c), (("row" : Str), d)]
  rw [if_neg fw2.2.1, if_neg fw2.2.2.2.1, if_neg fw2.2.2.2.2]
theorem ok_init (T : CTxt K mg C) {f : Addr} {fd : FuncData} (F : Fun K "__init__" "Course.__init__" s_init f fd) : FnOk P w K mg base CX0 1 f fd ["self", "world", "here", "goal"] (spInit K C) := by
  refine F.ok sc_init (fun vs H Q E h => ?_) fun cdv A outer s H vs Q E hr h => ?_
  · obtain ⟨p, dx, vw, vh, vg, rfl, _⟩ := h
    rfl
  · refine ⟨_, pss_cons (ps_fld (pv 0) (pv 1) rfl) (pss_cons (ps_fld (pv 0) (pv 2) rfl) (pss_cons (ps_fld (pv 0) (pv 3) rfl) (pss_one (ps_fld (pv 0) (pe_lst pa_nil) rfl)))), ?_⟩
    obtain ⟨p, dx, vw, vh, vg, rfl, hp, q⟩ := h
    have npl : ∀ {l : Addr}, H l = none → l ≠ p := fun {l} hl z => by
      rw [z, hp] at hl
      cases hl
    refine ⟨vw, rfl, _, rfl, p, C, dx, [], rfl, hp, T.cl, T.nW, (by show 0 < 1000; decide), vh, rfl, _, rfl, p, C, dx, _, rfl, upd_same, T.cl, T.nH, (by show 1 < 1000; decide), ?_⟩
    rw [putF2]
    refine ⟨vg, rfl, _, rfl, p, C, dx, _, rfl, upd_same, T.cl, T.nG, (by show 2 < 1000; decide), ?_⟩
    rw [putF3]
    refine ⟨Nat.zero_le _, fun l hl => ?_⟩
    have hl2 : l ≠ p := fun z => by
      rw [z, upd_same] at hl
      cases hl
    have hl1 : H l = none := by rwa [upd_ne hl2, upd_ne hl2, upd_ne hl2] at hl
    refine ⟨_, rfl, p, C, dx, _, rfl, (by rw [upd_ne hl2.symm]; exact upd_same), T.cl, T.nR, (by show 3 < 1000; decide), ?_⟩
    rw [putF4]
    have e : ∀ z : HO, upd (upd (upd (upd (upd H p (.ins C dx (putF "world" vw []))) p (.ins C dx [(("world" : Str), vw), (("here" : Str), vh)])) p (.ins C dx [(("world" : Str), vw), (("here" : Str), vh), (("goal" : Str), vg)])) l (.lst [])) p z = upd (upd H l (.lst [])) p z := fun z => by
      funext b
      by_cases hb : b = p
      · rw [hb, upd_same, upd_same]
      · rw [upd_ne hb, upd_ne hb]
        by_cases hc : b = l
        · rw [hc, upd_same, upd_same]
        · rw [upd_ne hc, upd_ne hc, upd_ne hb, upd_ne hb, upd_ne hb]
    show Q .non (upd _ p _)
    rw [e]
    exact q l hl1
theorem c_init (T : CTxt K mg C) {f : Addr} {fd : FuncData} (M : Mk K C f) (b : Binds K fd ["self", "world", "here", "goal"] []) (F : Fun K "__init__" "Course.__init__" s_init f fd) : ClI P w K mg base C 1 := ⟨f, fd, M, b, ok_init T F⟩
theorem c_lead (G : Glo K w mg) (T : CTxt K mg C) (D : DfM K C "lead" "Course.lead" ["self", "part"] (inClass (top 86) 3)) (c_outermost : Cl P w K mg base "outermost" ["forest", "part"] 1 p_outermost)
    (c_parts_in : Cl P w K mg base "parts_in" ["world", "lot"] 2 p_parts_in) (c_without : Cl P w K mg base "without" ["lot", "t"] 1 p_without) (c_room_way : Cl P w K mg base "room_way" ["forest", "x", "y"] 1 p_room_way)
    (c_Course_raise_in : ClM P w K mg base C "raise_in" ["self", "part", "x"] 9 (p_Craise C)) (c_Course_do : ClM P w K mg base C "do" ["self", "word", "x", "room"] 8 (p_Cdo C)) :
    ∀ m, ClM P w K mg base C "lead" ["self", "part"] (9 + m) (p_Clead C m)
  | 0 => by
    obtain ⟨f, fd, F, b, g⟩ := D
    have no : ∀ vs H Q E, ¬ spD1 K (p_Clead C 0) vs H Q E := fun vs H Q E h => by
      obtain ⟨S, v, vs', s, ds, k, _, _, _, _, _, _, _, h, _⟩ := h
      obtain ⟨p, l, R, L, f, g, row, x, t, _, _, _, _, _, lg, hx, _, _, _, h0, _⟩ := h
      have hxP : x ∈ beneath g x := (mem_ben lg.good).mpr ⟨hx, .inl rfl⟩
      rw [List.length_eq_zero_iff.mp (Nat.le_zero.mp h0)] at hxP
      cases hxP
    exact ⟨f, fd, g, b, ⟨fun vs H Q E h => (no vs H Q E h).elim, fun A outer s H args us vs Q E _ _ _ _ h => (no vs H Q E h).elim⟩⟩
  | m + 1 => by
    have ih := c_lead G T D c_outermost c_parts_in c_without c_room_way c_Course_raise_in c_Course_do m
    exact D.cl sc_Course_lead (fun s ds k ⟨_, _, _, _, _, _, _, _, _, _, e, _⟩ => by rw [e]; rfl) fun f cdv A outer s H E hr => ⟨_, w_Course_lead G (Nat.le_add_right 9 m) T c_outermost c_parts_in c_without c_room_way c_Course_raise_in c_Course_do ih hr, r_Clead⟩
end
end DL
end
section
set_option Elab.async false
set_option maxRecDepth 100000
set_option linter.all false
set_option maxHeartbeats 0
namespace DL
open PySem PySem.Spec PyProof.Rows L2 L2.GD
/-! the entry: a law that is asked where no repr is under way -/
theorem spD_law {K : PySem.W.Frag} {H : Hp} {a : Addr} {ns : List Int} (h : SqL K H a (ns.map V.int)) : spD K p_law [.ref a] H (fun v _ => v = .bl true) E0 :=
  ⟨⟨H, H⟩, [scrD ns], fun d => d = .bool true, rfl, Ex.refl _, .cons (.scr h) .nil, ⟨ns, rfl, rfl⟩, fun v d T _ q e => by
    subst e
    cases q
    rfl⟩
section
variable {P : Program} {w : World} {K : PySem.W.Frag} {mg mb : Str → Option Value} {k : Nat} {fa a : Addr} {nm x : Str} {s₁ : Shared} {vs : List Value} {ns : List Int}
/-- the script lies at a, and H tells nothing but that -/
structure Sole (K : PySem.W.Frag) (a : Addr) (H : Hp) : Prop where
  only : ∀ b o, H b = some o → b = a ∧ ∃ ob xs, o = .frz ob (.lst xs)
  out : ∀ o, H a = some o → K.lookup a = none
theorem base_in {s : Heap} {os : Obj} {H : Hp} (KX : K.In s) (S : Sole K a H) : K.In (hidT s H) := fun b o e => hidT_get (KX b o e) (by
  cases q : H b with
  | none => rfl
  | some u =>
    obtain ⟨rfl, _⟩ := S.only b u q
    rw [S.out u q] at e
    cases e)
theorem base_ns {s : Heap} {os : Obj} {H : Hp} (ha : s.get? a = some os) (hd : ∀ es ep, os.data ≠ .dict es ep) (S : Sole K a H) {b : Addr} {m : Str → Option Value} (h : s.Ns b m) : (hidT s H).Ns b m := by
  obtain ⟨o, es, ep, e, d, r⟩ := h
  refine ⟨o, es, ep, hidT_get e ?_, d, r⟩
  cases q : H b with
  | none => rfl
  | some u =>
    obtain ⟨rfl, _⟩ := S.only b u q
    rw [ha] at e
    cases e
    exact absurd d (hd es ep)
theorem go_in {H : Hp} (KX : K.In s₁.heap) (n1 : s₁.heap.Ns mainGlobals mg) (n2 : s₁.heap.Ns builtinsNs mb) (n3 : ∀ x : Str, x ≠ "__name__" → mb x = bootBuiltins x) (n4 : s₁.heap.NoLimit) (n5 : s₁.gens = #[])
    (ha : s₁.heap.get? a = some { cls := .type "list", data := .seq vs.toArray }) (hr : Room k callerA) (S : Sole K a H) (hok : HOk P w H s₁.heap) (hS : SqL K H a (ns.map V.int))
    (F : ∀ base : Heap, K.In base → base.Ns mainGlobals mg → ClG P w K mg base nm [x] k p_law) (hmg : mg nm = some (.ref fa)) :
    codeAny (model P w) callerA (.call (.ref fa) ⟨[.ref a], []⟩) (fun r s' => r = .ok (.ret (.bool true)) ∧ OldK s₁.heap s'.heap ∧ s'.os = s₁.os ∧ AllBare s'.gens) s₁ := by
  have hd : ∀ es ep, ({ cls := .type "list", data := .seq vs.toArray } : Obj).data ≠ .dict es ep := fun es ep z => by cases z
  have kb := base_in (os := { cls := .type "list", data := .seq vs.toArray }) KX S
  have nb := base_ns ha hd S n1
  obtain ⟨mc, l1, l2⟩ := n4
  have M : Mod K mg (hidT s₁.heap H) := { kin := kb, glob := nb, blt := ⟨mb, base_ns ha hd S n2, n3⟩, nolimit := ⟨mc, base_ns ha hd S l1, l2⟩ }
  have E : Env0 P w K mg (hidT s₁.heap H) callerA [] s₁ H := { frames := rfl, mod := M, bs := fun b o e => of_hidT e, bsz := Nat.le_of_eq (hidT_size _ _), funs := trivial, frf := nofun, hok := hok, bare := .of_eq n5 }
  obtain ⟨f, fd, hm, _, B, FG⟩ := F _ kb nb
  rw [hmg] at hm
  cases hm
  have go := FG.run callerA [] s₁ H ⟨[.ref a], []⟩ [.ref a] [.ref a] (fun v _ => v = .bl true) E0 hr rfl E (B s₁ [.ref a] KX rfl) (.cons rfl .nil) (spD_law hS)
  refine codeAny_mono go fun r s' h => ?_
  match r, h with
  | .error e, h => exact h.elim
  | .ok (.ret u), ⟨v, H', q1, q2, un, hok', q3, q4⟩ =>
    have q4 : v = .bl true := q4
    subst q4
    have q3 : u = Value.bool true := q3
    subst q3
    refine ⟨rfl, OldK.of_keep fun b o e => ?_, q1, q2⟩
    cases q : H b with
    | none => exact un.keep b o e q nofun nofun
    | some u =>
      obtain ⟨_, ob, xs, rfl⟩ := S.only b u q
      have e1 := (hok b _ q).1
      rw [e] at e1
      cases e1
      exact (hok' b _ (un.frzs b _ _ q)).1
/-- the law's call, from the state behind the top -/
theorem go_law (KX : K.In s₁.heap) (n1 : s₁.heap.Ns mainGlobals mg) (n2 : s₁.heap.Ns builtinsNs mb) (n3 : ∀ x : Str, x ≠ "__name__" → mb x = bootBuiltins x) (n4 : s₁.heap.NoLimit) (n5 : s₁.gens = #[])
    (ha : s₁.heap.get? a = some { cls := .type "list", data := .seq vs.toArray }) (hi : IntsAre vs ns) (hl : ns.length ≤ sizeLine) (hr : Room k callerA)
    (F : ∀ base : Heap, K.In base → base.Ns mainGlobals mg → ClG P w K mg base nm [x] k p_law) (hmg : mg nm = some (.ref fa)) :
    codeAny (model P w) callerA (.call (.ref fa) ⟨[.ref a], []⟩) (fun r s' => r = .ok (.ret (.bool true)) ∧ OldK s₁.heap s'.heap ∧ s'.os = s₁.os ∧ AllBare s'.gens) s₁ := by
  have rv := vals_ints hi
  have lenV := hi.length
  cases hk : K.lookup a with
  | some o =>
    have e := KX a o hk
    rw [ha] at e
    cases e
    exact go_in (H := fun _ => none) KX n1 n2 n3 n4 n5 ha hr ⟨nofun, nofun⟩ nofun (.inr ⟨_, vs.toArray, _, hk, rfl, rfl, rfl, by rw [List.size_toArray, lenV]; exact hl, by simpa using rv⟩) F hmg
  | none =>
    have one : ∀ b u, (fun b => if b = a then some (HO.frz { cls := .type "list", data := .seq vs.toArray } (.lst (ns.map V.int))) else none) b = some u → b = a ∧ u = .frz { cls := .type "list", data := .seq vs.toArray } (.lst (ns.map V.int)) := fun b u z => by
      by_cases hb : b = a
      · refine ⟨hb, ?_⟩
        have z2 := (if_pos hb).symm.trans z
        cases z2
        rfl
      · have z2 := (if_neg hb).symm.trans z
        cases z2
    refine go_in (H := fun b => if b = a then some (.frz { cls := .type "list", data := .seq vs.toArray } (.lst (ns.map V.int))) else none) KX n1 n2 n3 n4 n5 ha hr ⟨fun b u z => ?_, fun _ _ => hk⟩ (fun b u z => ?_) (.inl (.inr ⟨_, if_pos rfl⟩)) F hmg
    · obtain ⟨e1, e2⟩ := one b u z
      exact ⟨e1, _, _, e2⟩
    · obtain ⟨rfl, rfl⟩ := one b u z
      exact ⟨ha, by rw [List.length_map]; exact hl, vs, _, rv, ha⟩
end
end DL
end
section
set_option Elab.async false
set_option maxRecDepth 100000
set_option linter.all false
set_option maxHeartbeats 0
namespace DL
open PySem L2 L2.DC L2.GD
/-! the head's facts, given to the defs -/
section
variable {P : Program} {K : PySem.W.Frag} {w : World} {h : Heap} {mg : Str → Option Value} {base : Heap}
theorem says_t (c : HEA.Says w K) : He.SaysT HEA.fa HEA.fn [HEA.tab] w K := congrArg (fun z : HEA.Al => z.1) c
theorem says_m (c : HEA.Says w K) : HEA.more K = true := congrArg (fun z : HEA.Al => z.2) c
theorem fun_of {x q : Str} {st : Stmt} {f : Addr} {fd : FuncData} (F : FunD K x q (defArgs st) (defBody st) (defScope st) [] [] f fd) : Fun K x q st f fd := by
  obtain ⟨oc, od, dV, kV, doc, pm, an, cdv, ct, osl, rfl, lk, hcd, hD, _⟩ := F.ex
  rcases hD with ⟨_, rfl⟩ | ⟨e, _⟩
  · exact ⟨⟨oc, od, kV, doc, pm, an, cdv, ct, osl, rfl, lk, hcd⟩, F.kp⟩
  · exact absurd rfl e
theorem df_mk (c : HEA.Says w K) (X : K.In h) (N : h.Ns mainGlobals mg) {n : Str} {i : Nat} {ps : List Str} (j m : Nat) (hj : HEA.fn[j]? = some (HEA.dP n i)) (hm : HEA.fa[m]? = some (.glo n))
    (hb : ∀ (kV doc pm : Value) (an : Option Addr) (cdv ct : Value) (us : List Value), us.length = ps.length → bindArgs (PySem.W.fnOf n n (defArgs (top i)) (defBody (top i)) (defScope (top i)) .none kV doc pm an cdv ct) ⟨us, []⟩ = pure (ps.zip us)) : Df K mg n ps (top i) := by
  obtain ⟨fd, F⟩ := (says_t c).d.def_ j hj
  have F : FunD K n n (defArgs (top i)) (defBody (top i)) (defScope (top i)) [] [] (He.ga K n) fd := F
  exact ⟨_, fd, fun_of F, FunD.bindsN F hb, He.glo_ok X N ((says_t c).d.fact m hm)⟩
theorem dm_mk (c : HEA.Says w K) (X : K.In h) (N : h.Ns mainGlobals mg) {n q : Str} {i : Nat} {ps : List Str} (j m : Nat) (hj : HEA.fn[j]? = some (HEA.dM n q i)) (hm : HEA.fa[m]? = some (.meth "Course" n))
    (hb : ∀ (kV doc pm : Value) (an : Option Addr) (cdv ct : Value) (us : List Value), us.length = ps.length → bindArgs (PySem.W.fnOf n q (defArgs (inClass (top 86) i)) (defBody (inClass (top 86) i)) (defScope (inClass (top 86) i)) .none kV doc pm an cdv ct) ⟨us, []⟩ = pure (ps.zip us)) :
    DfM K (He.ga K "Course") n q ps (inClass (top 86) i) := by
  obtain ⟨fd, F⟩ := (says_t c).d.def_ j hj
  have F : FunD K n q (defArgs (inClass (top 86) i)) (defBody (inClass (top 86) i)) (defScope (inClass (top 86) i)) [] [] (He.ma K (He.ga K "Course") n) fd := F
  exact ⟨_, fd, fun_of F, FunD.bindsN F hb, He.meth_ok ((says_t c).d.fact m hm)⟩
theorem ctxt (c : HEA.Says w K) (X : K.In h) (N : h.Ns mainGlobals mg) : CTxt K mg (He.ga K "Course") :=
  have f := (says_t c).d
  { cl := He.cls_ok (f.fact 19 (f := .cls "Course") rfl), nW := He.noat_ok (f.fact 20 (f := .noat "Course" "world") rfl), nH := He.noat_ok (f.fact 21 (f := .noat "Course" "here") rfl), nG := He.noat_ok (f.fact 22 (f := .noat "Course" "goal") rfl),
    nR := He.noat_ok (f.fact 23 (f := .noat "Course" "row") rfl), mgC := He.glo_ok X N (f.fact 18 (f := .glo "Course") rfl) }
theorem c_init_of (c : HEA.Says w K) (X : K.In h) (N : h.Ns mainGlobals mg) : ClI P w K mg base (He.ga K "Course") 1 := by
  obtain ⟨fd, F⟩ := (says_t c).d.def_ 87 (d := HEA.dM "__init__" "Course.__init__" 0) rfl
  have F : FunD K "__init__" "Course.__init__" (defArgs s_init) (defBody s_init) (defScope s_init) [] [] (He.ma K (He.ga K "Course") "__init__") fd := F
  exact c_init (ctxt c X N) (He.mkr_ok ((says_t c).d.fact 27 (f := .mkr "Course") rfl)) (FunD.bindsN F fun _ _ _ _ _ _ us hl => match us, hl with | [_, _, _, _], _ => rfl) (fun_of F)
theorem glo (c : HEA.Says w K) (X : K.In h) (N : h.Ns mainGlobals mg) : Glo K w mg := by
  have f := (says_t c).d
  obtain ⟨mA, mT⟩ := He.ba (says_m c)
  have fr : ∀ (i : Nat) (x : Str), HEA.fa[i]? = some (.free x) → mg x = none := fun i x e => He.free_ok X N (f.fact i e)
  refine { isinstance := fr 0 _ rfl, len := fr 1 _ rfl, range := fr 2 _ rfl, tuple_ := fr 3 _ rfl, list := fr 4 _ rfl, sorted := fr 5 _ rfl, all := fr 6 _ rfl, max := fr 7 _ rfl, int_ := fr 8 _ rfl, bool_ := fr 9 _ rfl, str_ := fr 10 _ rfl, repr_ := fr 11 _ rfl, enumerate := fr 12 _ rfl, things := He.int_ok X N (f.fact 13 (f := .int "MOST_THINGS" 24) rfl), rooms := He.int_ok X N (f.fact 14 (f := .int "MOST_ROOMS" 4) rfl), sayings := He.int_ok X N (f.fact 15 (f := .int "MOST_SAYINGS" 400) rfl), turned := ?_, apart := ?_ }
  · refine ⟨He.ga K "TURNED", He.glo_ok X N (f.fact 16 (f := .glo "TURNED") rfl), fun q hq => ?_⟩
    obtain ⟨es, n, kl, ks, _⟩ := (says_t c).tab 0 (t := HEA.tab) rfl
    have hv : ∃ u, PySem.W.nsIn K (He.ga K "TURNED") q.1 = some (some u) ∧ RelV (.str q.2) u := by
      have v : ∀ z : Str × Str, (z.1, He.Dv.str z.2) ∈ [(("apart" : Str), He.Dv.str "apart"), ("in", .str "around"), ("around", .str "in")] → ∃ u, PySem.W.nsIn K (He.ga K "TURNED") z.1 = some (some u) ∧ RelV (.str z.2) u := fun z hz => He.valsB_ok (q := (z.1, .str z.2)) mT hz
      refine v q ?_
      rcases List.mem_cons.mp hq with rfl | hq
      · exact List.mem_cons_self
      · rcases List.mem_cons.mp hq with rfl | hq
        · exact List.mem_cons_of_mem _ List.mem_cons_self
        · rw [List.mem_singleton] at hq
          subst hq
          exact List.mem_cons_of_mem _ (List.mem_cons_of_mem _ List.mem_cons_self)
    obtain ⟨u, h1, h2⟩ := hv
    exact ⟨es, n, u, kl, ks, h1, h2⟩
  · refine ⟨He.ga K "APART", He.glo_ok X N (f.fact 17 (f := .glo "APART") rfl), fun H => ?_⟩
    exact .tup (He.tupB_ok mA H) (.cons (.str _) (.cons (.int 0) .nil))
theorem all_of_Z : ∀ ds kk, p_all_standings ds kk → p_allZ ds fun d => ∃ xs, d = fzD xs ∧ kk (.tuple xs) := fun ds kk ⟨R, x, y, e, hR, hx, hy, hk⟩ => ⟨R, x, y, e, hR, hx, hy, _, rfl, hk⟩
theorem df_is_whole (c : HEA.Says w K) (X : K.In h) (N : h.Ns mainGlobals mg) : Df K mg "is_whole" ["value"] (top 17) :=
  df_mk c X N 0 28 rfl rfl (fun _ _ _ _ _ _ us hl => match us, hl with | [_], _ => rfl)
theorem df_made_rooms (c : HEA.Says w K) (X : K.In h) (N : h.Ns mainGlobals mg) : Df K mg "made_rooms" ["thing"] (top 18) :=
  df_mk c X N 1 29 rfl rfl (fun _ _ _ _ _ _ us hl => match us, hl with | [_], _ => rfl)
theorem df_is_rooms (c : HEA.Says w K) (X : K.In h) (N : h.Ns mainGlobals mg) : Df K mg "is_rooms" ["thing"] (top 19) :=
  df_mk c X N 2 30 rfl rfl (fun _ _ _ _ _ _ us hl => match us, hl with | [_], _ => rfl)
theorem df_is_thing (c : HEA.Says w K) (X : K.In h) (N : h.Ns mainGlobals mg) : Df K mg "is_thing" ["rooms", "x"] (top 20) :=
  df_mk c X N 3 31 rfl rfl (fun _ _ _ _ _ _ us hl => match us, hl with | [_, _], _ => rfl)
theorem df_is_place (c : HEA.Says w K) (X : K.In h) (N : h.Ns mainGlobals mg) : Df K mg "is_place" ["rooms", "x", "place"] (top 22) :=
  df_mk c X N 4 32 rfl rfl (fun _ _ _ _ _ _ us hl => match us, hl with | [_, _, _], _ => rfl)
theorem df_lies_in_itself (c : HEA.Says w K) (X : K.In h) (N : h.Ns mainGlobals mg) : Df K mg "lies_in_itself" ["forest", "x"] (top 23) :=
  df_mk c X N 5 33 rfl rfl (fun _ _ _ _ _ _ us hl => match us, hl with | [_, _], _ => rfl)
theorem df_first_bad (c : HEA.Says w K) (X : K.In h) (N : h.Ns mainGlobals mg) : Df K mg "first_bad" ["rooms", "forest"] (top 24) :=
  df_mk c X N 6 34 rfl rfl (fun _ _ _ _ _ _ us hl => match us, hl with | [_, _], _ => rfl)
theorem df_first_ring (c : HEA.Says w K) (X : K.In h) (N : h.Ns mainGlobals mg) : Df K mg "first_ring" ["forest"] (top 25) :=
  df_mk c X N 7 35 rfl rfl (fun _ _ _ _ _ _ us hl => match us, hl with | [_], _ => rfl)
theorem df_made_forest (c : HEA.Says w K) (X : K.In h) (N : h.Ns mainGlobals mg) : Df K mg "made_forest" ["rooms", "forest"] (top 26) :=
  df_mk c X N 8 36 rfl rfl (fun _ _ _ _ _ _ us hl => match us, hl with | [_, _], _ => rfl)
theorem df_is_forest (c : HEA.Says w K) (X : K.In h) (N : h.Ns mainGlobals mg) : Df K mg "is_forest" ["rooms", "forest"] (top 27) :=
  df_mk c X N 9 37 rfl rfl (fun _ _ _ _ _ _ us hl => match us, hl with | [_, _], _ => rfl)
theorem df_around (c : HEA.Says w K) (X : K.In h) (N : h.Ns mainGlobals mg) : Df K mg "around" ["forest", "x"] (top 28) :=
  df_mk c X N 10 38 rfl rfl (fun _ _ _ _ _ _ us hl => match us, hl with | [_, _], _ => rfl)
theorem df_room_way (c : HEA.Says w K) (X : K.In h) (N : h.Ns mainGlobals mg) : Df K mg "room_way" ["forest", "x", "y"] (top 29) :=
  df_mk c X N 11 39 rfl rfl (fun _ _ _ _ _ _ us hl => match us, hl with | [_, _, _], _ => rfl)
theorem df_within (c : HEA.Says w K) (X : K.In h) (N : h.Ns mainGlobals mg) : Df K mg "within" ["forest", "x"] (top 30) :=
  df_mk c X N 12 40 rfl rfl (fun _ _ _ _ _ _ us hl => match us, hl with | [_, _], _ => rfl)
theorem df_put (c : HEA.Says w K) (X : K.In h) (N : h.Ns mainGlobals mg) : Df K mg "put" ["forest", "x", "place"] (top 31) :=
  df_mk c X N 13 41 rfl rfl (fun _ _ _ _ _ _ us hl => match us, hl with | [_, _, _], _ => rfl)
theorem df_all_standings (c : HEA.Says w K) (X : K.In h) (N : h.Ns mainGlobals mg) : Df K mg "all_standings" ["rooms", "x", "y"] (top 35) :=
  df_mk c X N 14 42 rfl rfl (fun _ _ _ _ _ _ us hl => match us, hl with | [_, _, _], _ => rfl)
theorem df_is_standing (c : HEA.Says w K) (X : K.In h) (N : h.Ns mainGlobals mg) : Df K mg "is_standing" ["rooms", "x", "y", "thing"] (top 36) :=
  df_mk c X N 15 43 rfl rfl (fun _ _ _ _ _ _ us hl => match us, hl with | [_, _, _, _], _ => rfl)
theorem df_turned (c : HEA.Says w K) (X : K.In h) (N : h.Ns mainGlobals mg) : Df K mg "turned" ["standing"] (top 37) :=
  df_mk c X N 16 44 rfl rfl (fun _ _ _ _ _ _ us hl => match us, hl with | [_], _ => rfl)
theorem df_standing_in (c : HEA.Says w K) (X : K.In h) (N : h.Ns mainGlobals mg) : Df K mg "standing_in" ["forest", "x", "y"] (top 38) :=
  df_mk c X N 17 45 rfl rfl (fun _ _ _ _ _ _ us hl => match us, hl with | [_, _, _], _ => rfl)
theorem df_is_lets (c : HEA.Says w K) (X : K.In h) (N : h.Ns mainGlobals mg) : Df K mg "is_lets" ["rooms", "x", "y", "lets"] (top 40) :=
  df_mk c X N 18 46 rfl rfl (fun _ _ _ _ _ _ us hl => match us, hl with | [_, _, _, _], _ => rfl)
theorem df_says_right (c : HEA.Says w K) (X : K.In h) (N : h.Ns mainGlobals mg) : Df K mg "says_right" ["rooms", "saying"] (top 41) :=
  df_mk c X N 19 47 rfl rfl (fun _ _ _ _ _ _ us hl => match us, hl with | [_, _], _ => rfl)
theorem df_turned_lets (c : HEA.Says w K) (X : K.In h) (N : h.Ns mainGlobals mg) : Df K mg "turned_lets" ["lets"] (top 42) :=
  df_mk c X N 20 48 rfl rfl (fun _ _ _ _ _ _ us hl => match us, hl with | [_], _ => rfl)
theorem df_is_pair (c : HEA.Says w K) (X : K.In h) (N : h.Ns mainGlobals mg) : Df K mg "is_pair" ["thing"] (top 45) :=
  df_mk c X N 21 49 rfl rfl (fun _ _ _ _ _ _ us hl => match us, hl with | [_], _ => rfl)
theorem df_first_wrong (c : HEA.Says w K) (X : K.In h) (N : h.Ns mainGlobals mg) : Df K mg "first_wrong" ["rooms", "sayings"] (top 46) :=
  df_mk c X N 22 50 rfl rfl (fun _ _ _ _ _ _ us hl => match us, hl with | [_, _], _ => rfl)
theorem df_made_book (c : HEA.Says w K) (X : K.In h) (N : h.Ns mainGlobals mg) : Df K mg "made_book" ["thing"] (top 47) :=
  df_mk c X N 23 51 rfl rfl (fun _ _ _ _ _ _ us hl => match us, hl with | [_], _ => rfl)
theorem df_is_book (c : HEA.Says w K) (X : K.In h) (N : h.Ns mainGlobals mg) : Df K mg "is_book" ["thing"] (top 48) :=
  df_mk c X N 24 52 rfl rfl (fun _ _ _ _ _ _ us hl => match us, hl with | [_], _ => rfl)
theorem df_common_lets (c : HEA.Says w K) (X : K.In h) (N : h.Ns mainGlobals mg) : Df K mg "common_lets" ["one", "other"] (top 49) :=
  df_mk c X N 25 53 rfl rfl (fun _ _ _ _ _ _ us hl => match us, hl with | [_, _], _ => rfl)
theorem df_all_lets (c : HEA.Says w K) (X : K.In h) (N : h.Ns mainGlobals mg) : Df K mg "all_lets" ["book"] (top 50) :=
  df_mk c X N 26 54 rfl rfl (fun _ _ _ _ _ _ us hl => match us, hl with | [_], _ => rfl)
theorem df_first_broken (c : HEA.Says w K) (X : K.In h) (N : h.Ns mainGlobals mg) : Df K mg "first_broken" ["book", "forest"] (top 51) :=
  df_mk c X N 27 55 rfl rfl (fun _ _ _ _ _ _ us hl => match us, hl with | [_, _], _ => rfl)
theorem df_keeps (c : HEA.Says w K) (X : K.In h) (N : h.Ns mainGlobals mg) : Df K mg "keeps" ["book", "forest"] (top 52) :=
  df_mk c X N 28 56 rfl rfl (fun _ _ _ _ _ _ us hl => match us, hl with | [_, _], _ => rfl)
theorem df_near_of (c : HEA.Says w K) (X : K.In h) (N : h.Ns mainGlobals mg) : Df K mg "near_of" ["rooms", "lets"] (top 54) :=
  df_mk c X N 29 57 rfl rfl (fun _ _ _ _ _ _ us hl => match us, hl with | [_, _], _ => rfl)
theorem df_world_of (c : HEA.Says w K) (X : K.In h) (N : h.Ns mainGlobals mg) : Df K mg "world_of" ["book"] (top 55) :=
  df_mk c X N 30 58 rfl rfl (fun _ _ _ _ _ _ us hl => match us, hl with | [_], _ => rfl)
theorem df_without (c : HEA.Says w K) (X : K.In h) (N : h.Ns mainGlobals mg) : Df K mg "without" ["lot", "t"] (top 56) :=
  df_mk c X N 31 59 rfl rfl (fun _ _ _ _ _ _ us hl => match us, hl with | [_, _], _ => rfl)
theorem df_reached (c : HEA.Says w K) (X : K.In h) (N : h.Ns mainGlobals mg) : Df K mg "reached" ["near", "lot", "start"] (top 57) :=
  df_mk c X N 32 60 rfl rfl (fun _ _ _ _ _ _ us hl => match us, hl with | [_, _, _], _ => rfl)
theorem df_parts_in (c : HEA.Says w K) (X : K.In h) (N : h.Ns mainGlobals mg) : Df K mg "parts_in" ["world", "lot"] (top 58) :=
  df_mk c X N 33 61 rfl rfl (fun _ _ _ _ _ _ us hl => match us, hl with | [_, _], _ => rfl)
theorem df_shut_out (c : HEA.Says w K) (X : K.In h) (N : h.Ns mainGlobals mg) : Df K mg "shut_out" ["world", "t", "room", "part"] (top 60) :=
  df_mk c X N 34 62 rfl rfl (fun _ _ _ _ _ _ us hl => match us, hl with | [_, _, _, _], _ => rfl)
theorem df_over_in (c : HEA.Says w K) (X : K.In h) (N : h.Ns mainGlobals mg) : Df K mg "over_in" ["world", "t", "part"] (top 61) :=
  df_mk c X N 35 63 rfl rfl (fun _ _ _ _ _ _ us hl => match us, hl with | [_, _, _], _ => rfl)
theorem df_stuck_part (c : HEA.Says w K) (X : K.In h) (N : h.Ns mainGlobals mg) : Df K mg "stuck_part" ["world", "lot", "t"] (top 62) :=
  df_mk c X N 36 64 rfl rfl (fun _ _ _ _ _ _ us hl => match us, hl with | [_, _, _], _ => rfl)
theorem df_free_in (c : HEA.Says w K) (X : K.In h) (N : h.Ns mainGlobals mg) : Df K mg "free_in" ["world", "lot"] (top 63) :=
  df_mk c X N 37 65 rfl rfl (fun _ _ _ _ _ _ us hl => match us, hl with | [_, _], _ => rfl)
theorem df_with_beneath (c : HEA.Says w K) (X : K.In h) (N : h.Ns mainGlobals mg) : Df K mg "with_beneath" ["forest", "x"] (top 65) :=
  df_mk c X N 38 66 rfl rfl (fun _ _ _ _ _ _ us hl => match us, hl with | [_, _], _ => rfl)
theorem df_hangs_whole (c : HEA.Says w K) (X : K.In h) (N : h.Ns mainGlobals mg) : Df K mg "hangs_whole" ["world", "forest"] (top 66) :=
  df_mk c X N 39 67 rfl rfl (fun _ _ _ _ _ _ us hl => match us, hl with | [_, _], _ => rfl)
theorem df_stands_let (c : HEA.Says w K) (X : K.In h) (N : h.Ns mainGlobals mg) : Df K mg "stands_let" ["world", "forest"] (top 67) :=
  df_mk c X N 40 68 rfl rfl (fun _ _ _ _ _ _ us hl => match us, hl with | [_, _], _ => rfl)
theorem df_is_least (c : HEA.Says w K) (X : K.In h) (N : h.Ns mainGlobals mg) : Df K mg "is_least" ["world", "forest"] (top 68) :=
  df_mk c X N 41 69 rfl rfl (fun _ _ _ _ _ _ us hl => match us, hl with | [_, _], _ => rfl)
theorem df_least_right (c : HEA.Says w K) (X : K.In h) (N : h.Ns mainGlobals mg) : Df K mg "least_right" ["book", "forest"] (top 69) :=
  df_mk c X N 42 70 rfl rfl (fun _ _ _ _ _ _ us hl => match us, hl with | [_, _], _ => rfl)
theorem df_part_with (c : HEA.Says w K) (X : K.In h) (N : h.Ns mainGlobals mg) : Df K mg "part_with" ["world", "lot", "x"] (top 71) :=
  df_mk c X N 43 71 rfl rfl (fun _ _ _ _ _ _ us hl => match us, hl with | [_, _, _], _ => rfl)
theorem df_part_of_holder (c : HEA.Says w K) (X : K.In h) (N : h.Ns mainGlobals mg) : Df K mg "part_of_holder" ["world", "forest", "x"] (top 72) :=
  df_mk c X N 44 72 rfl rfl (fun _ _ _ _ _ _ us hl => match us, hl with | [_, _, _], _ => rfl)
theorem df_is_free_there (c : HEA.Says w K) (X : K.In h) (N : h.Ns mainGlobals mg) : Df K mg "is_free_there" ["world", "forest", "x"] (top 73) :=
  df_mk c X N 45 73 rfl rfl (fun _ _ _ _ _ _ us hl => match us, hl with | [_, _, _], _ => rfl)
theorem df_turn_rooms (c : HEA.Says w K) (X : K.In h) (N : h.Ns mainGlobals mg) : Df K mg "turn_rooms" ["world", "forest", "x"] (top 74) :=
  df_mk c X N 46 74 rfl rfl (fun _ _ _ _ _ _ us hl => match us, hl with | [_, _, _], _ => rfl)
theorem df_shift_rooms (c : HEA.Says w K) (X : K.In h) (N : h.Ns mainGlobals mg) : Df K mg "shift_rooms" ["world", "forest", "x"] (top 75) :=
  df_mk c X N 47 75 rfl rfl (fun _ _ _ _ _ _ us hl => match us, hl with | [_, _, _], _ => rfl)
theorem df_turn_hangs (c : HEA.Says w K) (X : K.In h) (N : h.Ns mainGlobals mg) : Df K mg "turn_hangs" ["world", "forest", "x", "room"] (top 76) :=
  df_mk c X N 48 76 rfl rfl (fun _ _ _ _ _ _ us hl => match us, hl with | [_, _, _, _], _ => rfl)
theorem df_deed_hangs (c : HEA.Says w K) (X : K.In h) (N : h.Ns mainGlobals mg) : Df K mg "deed_hangs" ["world", "forest", "deed"] (top 77) :=
  df_mk c X N 49 77 rfl rfl (fun _ _ _ _ _ _ us hl => match us, hl with | [_, _, _], _ => rfl)
theorem df_all_put (c : HEA.Says w K) (X : K.In h) (N : h.Ns mainGlobals mg) : Df K mg "all_put" ["forest", "row"] (top 78) :=
  df_mk c X N 50 78 rfl rfl (fun _ _ _ _ _ _ us hl => match us, hl with | [_, _], _ => rfl)
theorem df_behind (c : HEA.Says w K) (X : K.In h) (N : h.Ns mainGlobals mg) : Df K mg "behind" ["world", "forest", "deed"] (top 79) :=
  df_mk c X N 51 79 rfl rfl (fun _ _ _ _ _ _ us hl => match us, hl with | [_, _, _], _ => rfl)
theorem df_is_deed (c : HEA.Says w K) (X : K.In h) (N : h.Ns mainGlobals mg) : Df K mg "is_deed" ["thing"] (top 80) :=
  df_mk c X N 52 80 rfl rfl (fun _ _ _ _ _ _ us hl => match us, hl with | [_], _ => rfl)
theorem df_want_granted (c : HEA.Says w K) (X : K.In h) (N : h.Ns mainGlobals mg) : Df K mg "want_granted" ["world", "forest", "deed"] (top 81) :=
  df_mk c X N 53 81 rfl rfl (fun _ _ _ _ _ _ us hl => match us, hl with | [_, _, _], _ => rfl)
theorem df_hangs (c : HEA.Says w K) (X : K.In h) (N : h.Ns mainGlobals mg) : Df K mg "hangs" ["book", "forest", "deed"] (top 82) :=
  df_mk c X N 54 82 rfl rfl (fun _ _ _ _ _ _ us hl => match us, hl with | [_, _, _], _ => rfl)
theorem df_after (c : HEA.Says w K) (X : K.In h) (N : h.Ns mainGlobals mg) : Df K mg "after" ["book", "forest", "deed"] (top 83) :=
  df_mk c X N 55 83 rfl rfl (fun _ _ _ _ _ _ us hl => match us, hl with | [_, _, _], _ => rfl)
theorem df_outermost (c : HEA.Says w K) (X : K.In h) (N : h.Ns mainGlobals mg) : Df K mg "outermost" ["forest", "part"] (top 85) :=
  df_mk c X N 56 84 rfl rfl (fun _ _ _ _ _ _ us hl => match us, hl with | [_, _], _ => rfl)
theorem df_walk (c : HEA.Says w K) (X : K.In h) (N : h.Ns mainGlobals mg) : Df K mg "walk" ["book", "one", "two"] (top 87) :=
  df_mk c X N 57 85 rfl rfl (fun _ _ _ _ _ _ us hl => match us, hl with | [_, _, _], _ => rfl)
theorem df__law_pool (c : HEA.Says w K) (X : K.In h) (N : h.Ns mainGlobals mg) : Df K mg "_law_pool" ["_law_script", "_law_k"] (top 89) :=
  df_mk c X N 58 86 rfl rfl (fun _ _ _ _ _ _ us hl => match us, hl with | [_, _], _ => rfl)
theorem df__law_take (c : HEA.Says w K) (X : K.In h) (N : h.Ns mainGlobals mg) : Df K mg "_law_take" ["_law_source", "_law_top"] (top 90) :=
  df_mk c X N 59 87 rfl rfl (fun _ _ _ _ _ _ us hl => match us, hl with | [_, _], _ => rfl)
theorem df__law_one (c : HEA.Says w K) (X : K.In h) (N : h.Ns mainGlobals mg) : Df K mg "_law_one" ["_law_source", "_law_things"] (top 91) :=
  df_mk c X N 60 88 rfl rfl (fun _ _ _ _ _ _ us hl => match us, hl with | [_, _], _ => rfl)
theorem df__law_mixed (c : HEA.Says w K) (X : K.In h) (N : h.Ns mainGlobals mg) : Df K mg "_law_mixed" ["_law_source", "_law_things"] (top 92) :=
  df_mk c X N 61 89 rfl rfl (fun _ _ _ _ _ _ us hl => match us, hl with | [_, _], _ => rfl)
theorem df__law_grown (c : HEA.Says w K) (X : K.In h) (N : h.Ns mainGlobals mg) : Df K mg "_law_grown" ["_law_source", "_law_rooms"] (top 93) :=
  df_mk c X N 62 90 rfl rfl (fun _ _ _ _ _ _ us hl => match us, hl with | [_, _], _ => rfl)
theorem df__law_saying (c : HEA.Says w K) (X : K.In h) (N : h.Ns mainGlobals mg) : Df K mg "_law_saying" ["_law_source", "_law_rooms", "_law_forest"] (top 94) :=
  df_mk c X N 63 91 rfl rfl (fun _ _ _ _ _ _ us hl => match us, hl with | [_, _, _], _ => rfl)
theorem df__law_climb (c : HEA.Says w K) (X : K.In h) (N : h.Ns mainGlobals mg) : Df K mg "_law_climb" ["_law_forest", "_law_x"] (top 95) :=
  df_mk c X N 64 92 rfl rfl (fun _ _ _ _ _ _ us hl => match us, hl with | [_, _], _ => rfl)
theorem df__law_standing (c : HEA.Says w K) (X : K.In h) (N : h.Ns mainGlobals mg) : Df K mg "_law_standing" ["_law_forest", "_law_x", "_law_y"] (top 96) :=
  df_mk c X N 65 93 rfl rfl (fun _ _ _ _ _ _ us hl => match us, hl with | [_, _, _], _ => rfl)
theorem df__law_turned (c : HEA.Says w K) (X : K.In h) (N : h.Ns mainGlobals mg) : Df K mg "_law_turned" ["_law_standing_here"] (top 97) :=
  df_mk c X N 66 94 rfl rfl (fun _ _ _ _ _ _ us hl => match us, hl with | [_], _ => rfl)
theorem df__law_every (c : HEA.Says w K) (X : K.In h) (N : h.Ns mainGlobals mg) : Df K mg "_law_every" ["_law_rooms", "_law_x", "_law_y"] (top 98) :=
  df_mk c X N 67 95 rfl rfl (fun _ _ _ _ _ _ us hl => match us, hl with | [_, _, _], _ => rfl)
theorem df__law_table (c : HEA.Says w K) (X : K.In h) (N : h.Ns mainGlobals mg) : Df K mg "_law_table" ["_law_rooms", "_law_sayings"] (top 99) :=
  df_mk c X N 68 96 rfl rfl (fun _ _ _ _ _ _ us hl => match us, hl with | [_, _], _ => rfl)
theorem df__law_kept (c : HEA.Says w K) (X : K.In h) (N : h.Ns mainGlobals mg) : Df K mg "_law_kept" ["_law_table_here", "_law_forest"] (top 100) :=
  df_mk c X N 69 97 rfl rfl (fun _ _ _ _ _ _ us hl => match us, hl with | [_, _], _ => rfl)
theorem df__law_parts (c : HEA.Says w K) (X : K.In h) (N : h.Ns mainGlobals mg) : Df K mg "_law_parts" ["_law_table_here", "_law_lot"] (top 101) :=
  df_mk c X N 70 98 rfl rfl (fun _ _ _ _ _ _ us hl => match us, hl with | [_, _], _ => rfl)
theorem df__law_less (c : HEA.Says w K) (X : K.In h) (N : h.Ns mainGlobals mg) : Df K mg "_law_less" ["_law_lot", "_law_t"] (top 102) :=
  df_mk c X N 71 99 rfl rfl (fun _ _ _ _ _ _ us hl => match us, hl with | [_, _], _ => rfl)
theorem df__law_over (c : HEA.Says w K) (X : K.In h) (N : h.Ns mainGlobals mg) : Df K mg "_law_over" ["_law_rooms", "_law_table_here", "_law_t", "_law_part"] (top 103) :=
  df_mk c X N 72 100 rfl rfl (fun _ _ _ _ _ _ us hl => match us, hl with | [_, _, _, _], _ => rfl)
theorem df__law_free (c : HEA.Says w K) (X : K.In h) (N : h.Ns mainGlobals mg) : Df K mg "_law_free" ["_law_rooms", "_law_table_here", "_law_lot"] (top 104) :=
  df_mk c X N 73 101 rfl rfl (fun _ _ _ _ _ _ us hl => match us, hl with | [_, _, _], _ => rfl)
theorem df__law_beneath (c : HEA.Says w K) (X : K.In h) (N : h.Ns mainGlobals mg) : Df K mg "_law_beneath" ["_law_forest", "_law_x"] (top 105) :=
  df_mk c X N 74 102 rfl rfl (fun _ _ _ _ _ _ us hl => match us, hl with | [_, _], _ => rfl)
theorem df__law_is_least (c : HEA.Says w K) (X : K.In h) (N : h.Ns mainGlobals mg) : Df K mg "_law_is_least" ["_law_rooms", "_law_table_here", "_law_forest"] (top 106) :=
  df_mk c X N 75 103 rfl rfl (fun _ _ _ _ _ _ us hl => match us, hl with | [_, _, _], _ => rfl)
theorem df__law_part_of (c : HEA.Says w K) (X : K.In h) (N : h.Ns mainGlobals mg) : Df K mg "_law_part_of" ["_law_table_here", "_law_lot", "_law_t"] (top 107) :=
  df_mk c X N 76 104 rfl rfl (fun _ _ _ _ _ _ us hl => match us, hl with | [_, _, _], _ => rfl)
theorem df__law_deeds (c : HEA.Says w K) (X : K.In h) (N : h.Ns mainGlobals mg) : Df K mg "_law_deeds" ["_law_rooms", "_law_table_here", "_law_forest"] (top 108) :=
  df_mk c X N 77 105 rfl rfl (fun _ _ _ _ _ _ us hl => match us, hl with | [_, _, _], _ => rfl)
theorem df__law_hangs (c : HEA.Says w K) (X : K.In h) (N : h.Ns mainGlobals mg) : Df K mg "_law_hangs" ["_law_table_here", "_law_forest", "_law_deed"] (top 109) :=
  df_mk c X N 78 106 rfl rfl (fun _ _ _ _ _ _ us hl => match us, hl with | [_, _, _], _ => rfl)
theorem df__law_hung (c : HEA.Says w K) (X : K.In h) (N : h.Ns mainGlobals mg) : Df K mg "_law_hung" ["_law_forest", "_law_x", "_law_place"] (top 110) :=
  df_mk c X N 79 107 rfl rfl (fun _ _ _ _ _ _ us hl => match us, hl with | [_, _, _], _ => rfl)
theorem df__law_behind (c : HEA.Says w K) (X : K.In h) (N : h.Ns mainGlobals mg) : Df K mg "_law_behind" ["_law_table_here", "_law_forest", "_law_deed"] (top 111) :=
  df_mk c X N 80 108 rfl rfl (fun _ _ _ _ _ _ us hl => match us, hl with | [_, _, _], _ => rfl)
theorem df__law_number (c : HEA.Says w K) (X : K.In h) (N : h.Ns mainGlobals mg) : Df K mg "_law_number" ["_law_thing", "_law_most"] (top 112) :=
  df_mk c X N 81 109 rfl rfl (fun _ _ _ _ _ _ us hl => match us, hl with | [_, _], _ => rfl)
theorem df__law_is_forest (c : HEA.Says w K) (X : K.In h) (N : h.Ns mainGlobals mg) : Df K mg "_law_is_forest" ["_law_rooms", "_law_forest"] (top 113) :=
  df_mk c X N 82 110 rfl rfl (fun _ _ _ _ _ _ us hl => match us, hl with | [_, _], _ => rfl)
theorem df__law_least_made (c : HEA.Says w K) (X : K.In h) (N : h.Ns mainGlobals mg) : Df K mg "_law_least_made" ["_law_source", "_law_rooms", "_law_table_here"] (top 114) :=
  df_mk c X N 83 111 rfl rfl (fun _ _ _ _ _ _ us hl => match us, hl with | [_, _, _], _ => rfl)
theorem df__law_walk_right (c : HEA.Says w K) (X : K.In h) (N : h.Ns mainGlobals mg) : Df K mg "_law_walk_right" ["_law_rooms", "_law_sayings", "_law_one_here", "_law_two"] (top 115) :=
  df_mk c X N 84 112 rfl rfl (fun _ _ _ _ _ _ us hl => match us, hl with | [_, _, _, _], _ => rfl)
theorem df__law_kept_saying (c : HEA.Says w K) (X : K.In h) (N : h.Ns mainGlobals mg) : Df K mg "_law_kept_saying" ["_law_source", "_law_rooms", "_law_forest"] (top 116) :=
  df_mk c X N 85 113 rfl rfl (fun _ _ _ _ _ _ us hl => match us, hl with | [_, _, _], _ => rfl)
theorem df_law (c : HEA.Says w K) (X : K.In h) (N : h.Ns mainGlobals mg) : Df K mg "law" ["_law_script"] (top 117) :=
  df_mk c X N 86 114 rfl rfl (fun _ _ _ _ _ _ us hl => match us, hl with | [_], _ => rfl)
theorem df_Course_do (c : HEA.Says w K) (X : K.In h) (N : h.Ns mainGlobals mg) : DfM K (He.ga K "Course") "do" "Course.do" ["self", "word", "x", "room"] (inClass (top 86) 1) :=
  dm_mk c X N 88 24 rfl rfl (fun _ _ _ _ _ _ us hl => match us, hl with | [_, _, _, _], _ => rfl)
theorem df_Course_raise_in (c : HEA.Says w K) (X : K.In h) (N : h.Ns mainGlobals mg) : DfM K (He.ga K "Course") "raise_in" "Course.raise_in" ["self", "part", "x"] (inClass (top 86) 2) :=
  dm_mk c X N 89 25 rfl rfl (fun _ _ _ _ _ _ us hl => match us, hl with | [_, _, _], _ => rfl)
theorem df_Course_lead (c : HEA.Says w K) (X : K.In h) (N : h.Ns mainGlobals mg) : DfM K (He.ga K "Course") "lead" "Course.lead" ["self", "part"] (inClass (top 86) 3) :=
  dm_mk c X N 90 26 rfl rfl (fun _ _ _ _ _ _ us hl => match us, hl with | [_, _], _ => rfl)
theorem c_all (c : HEA.Says w K) (X : K.In h) (N : h.Ns mainGlobals mg) : ClG P w K mg base "law" ["_law_script"] 20 p_law := by
  have G := glo c X N
  have T := ctxt c X N
  have c_init := c_init_of (P := P) (base := base) c X N
  have c_is_whole := DL.c_is_whole (P := P) (w := w) (base := base) G (df_is_whole c X N)
  have c_lies_in_itself := DL.c_lies_in_itself (P := P) (w := w) (base := base) G (df_lies_in_itself c X N)
  have c_around := DL.c_around (P := P) (w := w) (base := base) G (df_around c X N)
  have c_room_way := DL.c_room_way (P := P) (w := w) (base := base) G (df_room_way c X N)
  have c_put := DL.c_put (P := P) (w := w) (base := base) G (df_put c X N)
  have c_allZ := DL.c_allZ (P := P) (w := w) (base := base) G (df_all_standings c X N)
  have c_all_standings := c_allZ.unfz all_of_Z
  have c_turned := DL.c_turned (P := P) (w := w) (base := base) G (df_turned c X N)
  have c_is_pair := DL.c_is_pair (P := P) (w := w) (base := base) G (df_is_pair c X N)
  have c_common_lets := DL.c_common_lets (P := P) (w := w) (base := base) G (df_common_lets c X N)
  have c_near_of := DL.c_near_of (P := P) (w := w) (base := base) G (df_near_of c X N)
  have c_without := DL.c_without (P := P) (w := w) (base := base) G (df_without c X N)
  have c_reached := DL.c_reached (P := P) (w := w) (base := base) G (df_reached c X N)
  have c_shut_out := DL.c_shut_out (P := P) (w := w) (base := base) G (df_shut_out c X N)
  have c_outermost := DL.c_outermost (P := P) (w := w) (base := base) G (df_outermost c X N)
  have c__law_pool := DL.c__law_pool (P := P) (w := w) (base := base) G (df__law_pool c X N)
  have c__law_take := DL.c__law_take (P := P) (w := w) (base := base) G (df__law_take c X N)
  have c__law_climb := DL.c__law_climb (P := P) (w := w) (base := base) G (df__law_climb c X N)
  have c__law_turned := DL.c__law_turned (P := P) (w := w) (base := base) G (df__law_turned c X N)
  have c__law_every := DL.c__law_every (P := P) (w := w) (base := base) G (df__law_every c X N)
  have c__law_parts := DL.c__law_parts (P := P) (w := w) (base := base) G (df__law_parts c X N)
  have c__law_less := DL.c__law_less (P := P) (w := w) (base := base) G (df__law_less c X N)
  have c__law_over := DL.c__law_over (P := P) (w := w) (base := base) G (df__law_over c X N)
  have c__law_hung := DL.c__law_hung (P := P) (w := w) (base := base) G (df__law_hung c X N)
  have c__law_number := DL.c__law_number (P := P) (w := w) (base := base) G (df__law_number c X N)
  have c_made_rooms := DL.c_made_rooms (P := P) (w := w) (base := base) G (df_made_rooms c X N) c_is_whole
  have c_is_rooms := DL.c_is_rooms (P := P) (w := w) (base := base) G (df_is_rooms c X N) c_is_whole
  have c_is_thing := DL.c_is_thing (P := P) (w := w) (base := base) G (df_is_thing c X N) c_is_whole
  have c_is_place := DL.c_is_place (P := P) (w := w) (base := base) G (df_is_place c X N) c_is_whole
  have c_first_ring := DL.c_first_ring (P := P) (w := w) (base := base) G (df_first_ring c X N) c_lies_in_itself
  have c_within := DL.c_within (P := P) (w := w) (base := base) G (df_within c X N) c_around
  have c_is_standing := DL.c_is_standing (P := P) (w := w) (base := base) G (df_is_standing c X N) c_is_whole c_all_standings
  have c_standing_in := DL.c_standing_in (P := P) (w := w) (base := base) G (df_standing_in c X N) c_room_way
  have c_turned_lets := DL.c_turned_lets (P := P) (w := w) (base := base) G (df_turned_lets c X N) c_turned
  have c_parts_in := DL.c_parts_in (P := P) (w := w) (base := base) G (df_parts_in c X N) c_reached
  have c_over_in := DL.c_over_in (P := P) (w := w) (base := base) G (df_over_in c X N) c_shut_out
  have c_all_put := DL.c_all_put (P := P) (w := w) (base := base) G (df_all_put c X N) c_put
  have c_is_deed := DL.c_is_deed (P := P) (w := w) (base := base) G (df_is_deed c X N) c_is_whole
  have c__law_one := DL.c__law_one (P := P) (w := w) (base := base) G (df__law_one c X N) c__law_take
  have c__law_mixed := DL.c__law_mixed (P := P) (w := w) (base := base) G (df__law_mixed c X N) c__law_take
  have c__law_standing := DL.c__law_standing (P := P) (w := w) (base := base) G (df__law_standing c X N) c__law_climb
  have c__law_table := DL.c__law_table (P := P) (w := w) (base := base) G (df__law_table c X N) c__law_every c__law_turned
  have c__law_free := DL.c__law_free (P := P) (w := w) (base := base) G (df__law_free c X N) c__law_parts c__law_less c__law_over
  have c__law_beneath := DL.c__law_beneath (P := P) (w := w) (base := base) G (df__law_beneath c X N) c__law_climb
  have c__law_part_of := DL.c__law_part_of (P := P) (w := w) (base := base) G (df__law_part_of c X N) c__law_parts
  have c__law_is_forest := DL.c__law_is_forest (P := P) (w := w) (base := base) G (df__law_is_forest c X N) c__law_number c__law_climb
  have c_first_bad := DL.c_first_bad (P := P) (w := w) (base := base) G (df_first_bad c X N) c_is_place
  have c_is_lets := DL.c_is_lets (P := P) (w := w) (base := base) G (df_is_lets c X N) c_allZ c_is_standing
  have c_all_lets := DL.c_all_lets (P := P) (w := w) (base := base) G (df_all_lets c X N) c_all_standings c_common_lets c_turned_lets
  have c_first_broken := DL.c_first_broken (P := P) (w := w) (base := base) G (df_first_broken c X N) c_standing_in
  have c_stuck_part := DL.c_stuck_part (P := P) (w := w) (base := base) G (df_stuck_part c X N) c_parts_in c_without c_over_in
  have c_with_beneath := DL.c_with_beneath (P := P) (w := w) (base := base) G (df_with_beneath c X N) c_within
  have c_stands_let := DL.c_stands_let (P := P) (w := w) (base := base) G (df_stands_let c X N) c_standing_in
  have c_part_with := DL.c_part_with (P := P) (w := w) (base := base) G (df_part_with c X N) c_parts_in
  have c__law_grown := DL.c__law_grown (P := P) (w := w) (base := base) G (df__law_grown c X N) c__law_mixed c__law_take c__law_one
  have c__law_saying := DL.c__law_saying (P := P) (w := w) (base := base) G (df__law_saying c X N) c__law_take c__law_standing c__law_every
  have c__law_kept := DL.c__law_kept (P := P) (w := w) (base := base) G (df__law_kept c X N) c__law_standing
  have c__law_deeds := DL.c__law_deeds (P := P) (w := w) (base := base) G (df__law_deeds c X N) c__law_beneath c__law_free c__law_part_of c__law_less c__law_over
  have c__law_hangs := DL.c__law_hangs (P := P) (w := w) (base := base) G (df__law_hangs c X N) c__law_part_of c__law_less c__law_beneath
  have c__law_least_made := DL.c__law_least_made (P := P) (w := w) (base := base) G (df__law_least_made c X N) c__law_parts c__law_one c__law_free c__law_less c__law_over
  have c_made_forest := DL.c_made_forest (P := P) (w := w) (base := base) G (df_made_forest c X N) c_made_rooms c_first_bad c_first_ring
  have c_is_forest := DL.c_is_forest (P := P) (w := w) (base := base) G (df_is_forest c X N) c_is_rooms c_first_bad c_first_ring
  have c_says_right := DL.c_says_right (P := P) (w := w) (base := base) G (df_says_right c X N) c_is_thing c_is_lets
  have c_world_of := DL.c_world_of (P := P) (w := w) (base := base) G (df_world_of c X N) c_all_lets c_near_of
  have c_free_in := DL.c_free_in (P := P) (w := w) (base := base) G (df_free_in c X N) c_stuck_part
  have c_hangs_whole := DL.c_hangs_whole (P := P) (w := w) (base := base) G (df_hangs_whole c X N) c_with_beneath c_parts_in
  have c_part_of_holder := DL.c_part_of_holder (P := P) (w := w) (base := base) G (df_part_of_holder c X N) c_part_with c_without c_with_beneath
  have c_shift_rooms := DL.c_shift_rooms (P := P) (w := w) (base := base) G (df_shift_rooms c X N) c_over_in c_with_beneath
  have c__law_is_least := DL.c__law_is_least (P := P) (w := w) (base := base) G (df__law_is_least c X N) c__law_is_forest c__law_kept c__law_parts c__law_beneath
  have c__law_behind := DL.c__law_behind (P := P) (w := w) (base := base) G (df__law_behind c X N) c__law_hangs c__law_hung
  have c__law_kept_saying := DL.c__law_kept_saying (P := P) (w := w) (base := base) G (df__law_kept_saying c X N) c__law_saying c__law_standing c__law_every
  have c_first_wrong := DL.c_first_wrong (P := P) (w := w) (base := base) G (df_first_wrong c X N) c_says_right
  have c_is_least := DL.c_is_least (P := P) (w := w) (base := base) G (df_is_least c X N) c_stands_let c_hangs_whole
  have c_is_free_there := DL.c_is_free_there (P := P) (w := w) (base := base) G (df_is_free_there c X N) c_free_in c_with_beneath
  have c_turn_rooms := DL.c_turn_rooms (P := P) (w := w) (base := base) G (df_turn_rooms c X N) c_over_in c_part_of_holder
  have c_turn_hangs := DL.c_turn_hangs (P := P) (w := w) (base := base) G (df_turn_hangs c X N) c_part_of_holder
  have c_made_book := DL.c_made_book (P := P) (w := w) (base := base) G (df_made_book c X N) c_is_pair c_made_rooms c_first_wrong
  have c_is_book := DL.c_is_book (P := P) (w := w) (base := base) G (df_is_book c X N) c_is_pair c_is_rooms c_first_wrong
  have c_deed_hangs := DL.c_deed_hangs (P := P) (w := w) (base := base) G (df_deed_hangs c X N) c_turn_hangs
  have c_want_granted := DL.c_want_granted (P := P) (w := w) (base := base) G (df_want_granted c X N) c_is_deed c_is_thing c_shift_rooms c_is_free_there c_turn_rooms
  have c_keeps := DL.c_keeps (P := P) (w := w) (base := base) G (df_keeps c X N) c_is_book c_is_forest c_first_broken
  have c_behind := DL.c_behind (P := P) (w := w) (base := base) G (df_behind c X N) c_all_put c_deed_hangs
  have c_hangs := DL.c_hangs (P := P) (w := w) (base := base) G (df_hangs c X N) c_made_book c_made_forest c_world_of c_is_least c_want_granted c_deed_hangs
  have c_least_right := DL.c_least_right (P := P) (w := w) (base := base) G (df_least_right c X N) c_keeps c_hangs_whole c_world_of
  have c_after := DL.c_after (P := P) (w := w) (base := base) G (df_after c X N) c_hangs c_all_put c_made_forest
  have c_Course_do := DL.c_Course_do (P := P) (w := w) (base := base) G T (df_Course_do c X N) c_behind
  have c_Course_raise_in := DL.c_Course_raise_in (P := P) (w := w) (base := base) G T (df_Course_raise_in c X N) c_outermost c_room_way c_Course_do
  have c_Course_lead := (DL.c_lead (P := P) (w := w) (base := base) G T (df_Course_lead c X N) c_outermost c_parts_in c_without c_room_way c_Course_raise_in c_Course_do 7).mono (show 9 + 7 ≤ 17 by decide)
  have c_walk := DL.c_walk (P := P) (w := w) (base := base) G T (df_walk c X N) c_made_book c_made_forest c_world_of c_is_least c_parts_in c_init c_Course_lead
  have c__law_walk_right := DL.c__law_walk_right (P := P) (w := w) (base := base) G (df__law_walk_right c X N) c__law_table c_walk c_least_right c__law_deeds c__law_behind c_after c__law_is_least
  exact DL.c_law (P := P) (w := w) (base := base) G (df_law c X N) c__law_walk_right c__law_pool c__law_take c__law_one c__law_grown c__law_kept_saying c__law_table c__law_least_made
end
end DL
end
section
set_option Elab.async false
set_option maxRecDepth 100000
set_option linter.all false
set_option maxHeartbeats 0
namespace DL
open PySem PySem.Spec PyProof.Rows L2 L2.GD
theorem walk_law {q : Program} {loose : List Str} {XP : (Str → Option Value) → Heap → Prop} {d : DefRec} (hn : d.name = "law") (hdf : d.params.defaults = []) :
    PySem.W.WalkO q loose XP HEA.hk.says PySem.Challenge.rw_nestsay_k39_stands_of_a_walk.row.toRowW d [] (fun f vs => PySem.call f vs) := by
  refine Att.attach_call (n := 63) rfl hdf fun w s₀ s₁ mg mb fa o pm cd doc a vs ns G Y ho hd hcd hmg hobj hints hlen hg => ?_
  obtain ⟨K, KX, c⟩ := Y
  rw [hn] at hmg
  exact go_law (k := 20) (nm := "law") (x := "_law_script") KX G.T.g G.T.b G.T.builtins G.T.nolimit hg hobj hints (Nat.le_trans hlen (by decide)) ⟨rfl, by decide, by decide⟩ (fun base kb nb => c_all c kb nb) hmg
end DL
end
set_option maxRecDepth 100000
set_option maxHeartbeats 0
open PySem PySem.W PySem.Calls PyProof.Rows
theorem PySem.Challenge.cw_nestsay_k39_stands_of_a_walk_holds : PySem.Challenge.rw_nestsay_k39_stands_of_a_walk.Holds := by
  exact HEA.close (DL.walk_law (by kernel_rfl) (by kernel_rfl))
