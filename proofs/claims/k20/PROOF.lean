import PyProof.Rows.All
import Wide.All
import OpenK.AllK
import Wide.FinOn
import HandS.HeadHook4
import HandS.HeadWalk
import HandS.HeadEnd
import HandS.Head0
import HandS.Head1
import HandS.Head2
import HandS.Property
import PySem.Syntax
import HandS.Base
import HandS.Call
import HandS.List
import HandS.Exc
import HandS.Iter
import HandS.Slots
import HandS.Lambda
import KE.KeyNested
import KE.KDictKeyed
import HandS.ForMost
import HandS.Star
import HandS.TupAny
import HandS.TupMul
import HandS.DictEq
import HandS.ListEq
import PyProof.NeKinds
import PyProof.DictFindH
import PyProof.DictRoadsH
import KE.KTab
import HandS.Text
import HandS.TupLe
import HandS.Conv
import HandS.IsInst
import HandS.SlotsOwn
import HandS.More
import HandS.ExcOwn
import HandS.WordsExc
import HandS.Comp
import KE.GoesEnum
import HandS.DictComp
import HandS.Flow
import KE.KDictOf
import HandS.SetTxt0
import HandS.Strs
import PyProof.Rows.SortShellAny
import KE.KDictZip
import KE.GoesZip
import PyProof.ListNew
import HandS.ExcValue
import HandS.GenOver
import HandS.GenList
import KE.KDictPairs
import HandS.Codes
import HandS.Defaults
import PySem.Challenge.RW_signedoff_k20_a_known_book
namespace Mp
end Mp
namespace Mg
end Mg
namespace Mh
end Mh
set_option Elab.async false
set_option linter.all false
set_option maxRecDepth 100000
set_option maxHeartbeats 4000000
namespace Ms
open PySem PySem.Spec PyProof.Rows L2 Mp Mg

def top (i : Nat) : Stmt := PySem.Challenge.pw_signedoff_k20_a_known_book.main.body.getD i (.Pass ⟨0, 0, 0, 0⟩)
def mth (i j : Nat) : Stmt := match top i with
  | .ClassDef (body := b) .. => b.getD j (.Pass ⟨0, 0, 0, 0⟩)
  | s => s
abbrev s_is_integer : Stmt := top 18
abbrev s_is_name : Stmt := top 19
abbrev s_are_parts : Stmt := top 20
abbrev s_are_of : Stmt := top 21
abbrev s_is_binding : Stmt := top 22
abbrev s_is_person : Stmt := top 23
abbrev s_look_at_people : Stmt := top 24
abbrev s_is_thing : Stmt := top 38
abbrev s_is_one_of : Stmt := top 39
abbrev s_is_deed : Stmt := top 40
abbrev s_first_standing : Stmt := top 41
abbrev s_index_of : Stmt := top 42
abbrev s_replaced : Stmt := top 43
abbrev s_stale : Stmt := top 44
abbrev s_put_together : Stmt := top 45
abbrev s_does_count : Stmt := top 47
abbrev s_counting_at : Stmt := top 48
abbrev s_has_enough : Stmt := top 49
abbrev s_people_with : Stmt := top 50
abbrev s_goes_out : Stmt := top 51
abbrev s_send_findings : Stmt := top 52
abbrev s_lost_people : Stmt := top 53
abbrev s_findings_of : Stmt := top 54
abbrev s_led_to : Stmt := top 55
abbrev s_is_sent : Stmt := top 56
abbrev s_replay : Stmt := top 59
abbrev s_look_at_thing : Stmt := top 60
abbrev s_counting : Stmt := top 61
abbrev s_subsets : Stmt := top 63
abbrev s_asks : Stmt := top 64
abbrev s__law_mix : Stmt := top 66
abbrev s__law_next : Stmt := top 67
abbrev s__law_book_of : Stmt := top 68
abbrev s__law_pieces : Stmt := top 69
abbrev s_law : Stmt := top 70
abbrev s_Book___init__ : Stmt := mth 25 1
abbrev s_Book_parts : Stmt := mth 25 2
abbrev s_Book_people : Stmt := mth 25 3
abbrev s_Book_contents : Stmt := mth 25 4
abbrev s_Book_copying : Stmt := mth 25 5
abbrev s_Book_taking : Stmt := mth 25 6
abbrev s_Book_words : Stmt := mth 25 7
abbrev s_Book___eq__ : Stmt := mth 25 8
abbrev s_Book_bound : Stmt := mth 25 9
abbrev s_Hand___init__ : Stmt := mth 46 0
abbrev s_Hand_standing : Stmt := mth 46 1
abbrev s_Hand_note : Stmt := mth 46 2
abbrev s_Hand_put_note : Stmt := mth 46 3
abbrev s_Hand_can_be : Stmt := mth 46 4
abbrev s_Hand_do : Stmt := mth 46 5
abbrev s_Hand_copy_main : Stmt := mth 46 6
abbrev s_Hand_take : Stmt := mth 46 7
abbrev s_Hand_taken : Stmt := mth 46 8
abbrev s_Record___init__ : Stmt := mth 58 0
abbrev s_Record_main : Stmt := mth 58 1
abbrev s_Record_spare : Stmt := mth 58 2
abbrev s_Record_notes : Stmt := mth 58 3
abbrev s_Record_sent : Stmt := mth 58 4
abbrev s_Record_found : Stmt := mth 58 5
abbrev s_Record___len__ : Stmt := mth 58 6
abbrev s_Record_take_in : Stmt := mth 58 7
end Ms
set_option Elab.async false
set_option linter.all false
set_option maxRecDepth 100000
set_option maxHeartbeats 2000000
namespace Mh
open PySem PySem.Spec PyProof.Rows L2 He
/-- the getter of a property -/
def pAd (K : PySem.W.Frag) (C f : Str) : Addr := match PySem.W.recIn K (ma K (ga K C) f) "property" with
  | some (.ref g :: _) => g
  | _ => 0
abbrev DefP : Type := (Str × Str) × DefD
def pW (K : PySem.W.Frag) (d : DefP) : FnW := match K.lookup (pAd K d.1.1 d.1.2) with
  | some ⟨_, _, .func fd, _⟩ => some (fd.name, fd.qualname, fd.params, fd.body, fd.scope, fd.globals, fd.closure, fd.builtins)
  | _ => none
def dB {α : Type} [DecidableEq α] (a b : α) : Bool := decide (a = b)
theorem dB_ok {α : Type} [DecidableEq α] {a b : α} (h : dB a b = true) : a = b := of_decide_eq_true h
def pOk (K : PySem.W.Frag) (d : DefP) : Bool := PySem.W.keepIn K (.ref (pAd K d.1.1 d.1.2)) && ((match K.lookup (pAd K d.1.1 d.1.2) with
  | some ⟨_, _, .func fd, _⟩ => PySem.W.codeIn K fd.code d.2.qual && (dflB K fd.defaults (d.2.dvs K) && kwdB K fd.kwdefaults (d.2.kws K))
  | _ => false) && (dB (PySem.W.findIn K (.ref (ga K d.1.1)) d.1.2) (some (some (.ref (ma K (ga K d.1.1) d.1.2)))) && (dB (PySem.W.specialIn K (.ref (ma K (ga K d.1.1) d.1.2)) "__get__") (some (some (.builtin "property.__get__"))) && (dB (PySem.W.takesIn K (.ref (ma K (ga K d.1.1) d.1.2))) (some true) &&
  (match PySem.W.recIn K (ma K (ga K d.1.1) d.1.2) "property" with
    | some (.ref _ :: _) => true
    | _ => false)))))
theorem prop_of {K : PySem.W.Frag} {d : DefP} (e : pW K d = d.2.val) (c : pOk K d = true) : PropOf K (ga K d.1.1) d.1.2 (ma K (ga K d.1.1) d.1.2) (pAd K d.1.1 d.1.2) ∧ ∃ fd, FunD K d.2.name d.2.qual d.2.params d.2.body d.2.scope (d.2.dvs K) (d.2.kws K) (pAd K d.1.1 d.1.2) fd := by
  obtain ⟨kp, c2⟩ := ba c
  obtain ⟨c3, c4⟩ := ba c2
  obtain ⟨q1, c5⟩ := ba c4
  obtain ⟨q2, c6⟩ := ba c5
  obtain ⟨q3, q4⟩ := ba c6
  refine ⟨⟨dB_ok q1, dB_ok q2, dB_ok q3, ?_⟩, ?_⟩
  · unfold pAd
    split at q4
    · rename_i g rest hr
      exact ⟨rest, by rw [hr]⟩
    · cases q4
  unfold pW at e
  cases q : K.lookup (pAd K d.1.1 d.1.2) with
  | none => rw [q] at c3; cases c3
  | some o =>
    obtain ⟨oc, od, dt, osl⟩ := o
    rw [q] at c3 e
    cases dt with
    | func fd =>
      obtain ⟨m1, m2, m3, m4, m5, m6, m7, m8, m9, m10, m11, m12, m13, m14, m15⟩ := fd
      have e2 : (some (m1, m2, m3, m4, m5, m6, m7, m15) : FnW) = some (d.2.name, d.2.qual, d.2.params, .stmts d.2.body, d.2.scope, mainGlobals, [], builtinsNs) := e
      simp only [Option.some.injEq, Prod.mk.injEq] at e2
      obtain ⟨a1, a2, a3, a4, a5, a6, a7, a8⟩ := e2
      subst a1 a2 a3 a4 a5 a6 a7 a8
      obtain ⟨b1, b2⟩ := ba (show (PySem.W.codeIn K m13 d.2.qual && (dflB K m8 (d.2.dvs K) && kwdB K m9 (d.2.kws K))) = true from c3)
      obtain ⟨b3, b4⟩ := ba b2
      exact ⟨_, ⟨oc, od, m8, m9, m10, m11, m12, m13, m14, osl, rfl, q, b1, dflB_ok b3, kwdB_ok b4⟩, kp⟩
    | _ => cases c3
abbrev AlP : Type := AlX × List FnW
def obsP (n : Nat) (fa : List Fa) (fn : List DefD) (ts : List Tab) (tf : List Defn) (ps : List DefP) (ex : PySem.W.Frag → Bool) (g : Addr → Option Obj) : AlP := (obsX n fa fn ts tf (fun K => ex K && ps.all (pOk K)) g, ps.map (pW (frT g (asD g n))))
def valP (fn : List DefD) (ts : List Tab) (ps : List DefP) (w : World) : AlP := (valX fn ts w, ps.map fun d => d.2.val)
structure SaysP (fa : List Fa) (fn : List DefD) (ts : List Tab) (tf : List Defn) (ps : List DefP) (ex : PySem.W.Frag → Bool) (w : World) (h : Heap) (K : PySem.W.Frag) : Prop where
  x : SaysX fa fn ts tf (fun K => ex K && ps.all (pOk K)) w h K
  p : ps.map (pW K) = ps.map fun d => d.2.val
theorem saysP_of {n : Nat} {fa : List Fa} {fn : List DefD} {ts : List Tab} {tf : List Defn} {ps : List DefP} {ex : PySem.W.Frag → Bool} {w : World} {h : Heap} (e : obsP n fa fn ts tf ps ex h.get? = valP fn ts ps w) : SaysP fa fn ts tf ps ex w h (frT h.get? (asD h.get? n)) :=
  ⟨saysX_of (congrArg (fun z : AlP => z.1) e), congrArg (fun z : AlP => z.2) e⟩
def hookP (n : Nat) (fa : List Fa) (fn : List DefD) (ts : List Tab) (tf : List Defn) (ps : List DefP) (ex : PySem.W.Frag → Bool) : PySem.W.Hook where
  α := AlP
  obs := fun s => obsP n fa fn ts tf ps ex s.heap.get?
  val := fun w => valP fn ts ps w
  says := fun w h => ∃ K : PySem.W.Frag, K.In h ∧ SaysP fa fn ts tf ps ex w h K
  of := fun _ _ e => ⟨_, frT_in, saysP_of e⟩
  keeps := fun _ _ _ ⟨K, hK, c⟩ k => ⟨K, PySem.W.Frag.In.keeps hK k, ⟨⟨c.x.t, c.x.more, c.x.hd, c.x.out, fun p hp => k _ _ (c.x.empty p hp)⟩, c.p⟩⟩
theorem obsP_eq {n : Nat} {fa : List Fa} {fn : List DefD} {ts : List Tab} {tf : List Defn} {ps : List DefP} {ex : PySem.W.Frag → Bool} {g : Addr → Option Obj} {s : Shared} (h : ∀ a, g a = s.heap.get? a) : obsP n fa fn ts tf ps ex g = (hookP n fa fn ts tf ps ex).obs s := by
  have e : g = s.heap.get? := funext h
  rw [e] <;> rfl
theorem SaysP.ex_ {fa : List Fa} {fn : List DefD} {ts : List Tab} {tf : List Defn} {ps : List DefP} {ex : PySem.W.Frag → Bool} {w : World} {h : Heap} {K : PySem.W.Frag} (c : SaysP fa fn ts tf ps ex w h K) : ex K = true := (ba c.x.more).1
theorem SaysP.prop {fa : List Fa} {fn : List DefD} {ts : List Tab} {tf : List Defn} {ps : List DefP} {ex : PySem.W.Frag → Bool} {w : World} {h : Heap} {K : PySem.W.Frag} (c : SaysP fa fn ts tf ps ex w h K) (i : Nat) {d : DefP} (hi : ps[i]? = some d) :
    PropOf K (ga K d.1.1) d.1.2 (ma K (ga K d.1.1) d.1.2) (pAd K d.1.1 d.1.2) ∧ ∃ fd, FunD K d.2.name d.2.qual d.2.params d.2.body d.2.scope (d.2.dvs K) (d.2.kws K) (pAd K d.1.1 d.1.2) fd := by
  refine prop_of ?_ (List.all_eq_true.mp (ba c.x.more).2 d (List.mem_of_getElem? hi))
  have q := congrArg (fun l : List FnW => l[i]?) c.p
  simp only [List.getElem?_map, hi, Option.map_some, Option.some.injEq] at q
  exact q
/-! ### own checks -/
def noListB (K : PySem.W.Frag) : Bool := K.all fun p => match p.2.cls with
  | .type t => !(t == "list")
  | _ => true
theorem lk_mem {a : Addr} {o : Obj} : ∀ {K : PySem.W.Frag}, K.lookup a = some o → ∃ b, (b, o) ∈ K
  | [], h => by cases h
  | (b, x) :: r, h => by
    rw [List.lookup_cons] at h
    cases e : a == b with
    | true => rw [e] at h; cases h; exact ⟨b, List.mem_cons_self⟩
    | false => rw [e] at h; obtain ⟨c, hc⟩ := lk_mem h; exact ⟨c, List.mem_cons_of_mem _ hc⟩
theorem noList_ok {K : PySem.W.Frag} (h : noListB K = true) {a : Addr} {o : Obj} (e : K.lookup a = some o) : o.cls ≠ .type "list" := by
  intro hc
  obtain ⟨b, hm⟩ := lk_mem e
  have := List.all_eq_true.mp h _ hm
  simp only [hc] at this
  simp at this
def sclB (K : PySem.W.Frag) (C : Addr) : Bool := PySem.W.plainGet K C Str.empty && (PySem.W.isClsIn K C && (PySem.W.plainOver K C && dB (PySem.W.findIn K (.ref C) "__setattr__") (some (some (.builtin "object.__setattr__")))))
theorem scl_ok {K : PySem.W.Frag} {C : Addr} (h : sclB K C = true) : SlX.SCls K C := by
  obtain ⟨h1, h2⟩ := ba h
  obtain ⟨h2, h3⟩ := ba h2
  obtain ⟨h3, h4⟩ := ba h3
  exact ⟨h1, h2, h3, dB_ok h4⟩
def sltB (K : PySem.W.Frag) (C : Addr) (f : Str) (i : Nat) : Bool := dB (PySem.W.findIn K (.ref C) f) (some (some (.ref (ma K C f)))) && (dB (PySem.W.specialIn K (.ref (ma K C f)) "__get__") (some (some (.builtin "member_descriptor.__get__"))) && (dB (PySem.W.takesIn K (.ref (ma K C f))) (some true) &&
  (dB (PySem.W.typeIn K (.ref (ma K C f))) (some (.type "member_descriptor")) && (dB (PySem.W.slotIn K (ma K C f) C) (some i) && Nat.blt i 1000))))
theorem slt_ok {K : PySem.W.Frag} {C : Addr} {f : Str} {i : Nat} (h : sltB K C f i = true) : SlX.Slot1 K C f (ma K C f) i := by
  obtain ⟨h1, h2⟩ := ba h
  obtain ⟨h2, h3⟩ := ba h2
  obtain ⟨h3, h4⟩ := ba h3
  obtain ⟨h4, h5⟩ := ba h4
  obtain ⟨h5, h6⟩ := ba h5
  exact ⟨dB_ok h1, dB_ok h2, dB_ok h3, dB_ok h4, dB_ok h5, Nat.le_of_ble_eq_true h6⟩
def valI (e : DictEntry) : Option Int := match e.val with
  | .int i _ => some i
  | _ => none
def dvB (K : PySem.W.Frag) (a : Addr) (vs : List Int) : Bool := match K.lookup a with
  | some ⟨_, _, .dict es _, _⟩ => dB (es.toList.map valI) (vs.map some)
  | _ => false
end Mh
set_option Elab.async false
set_option linter.all false
set_option maxRecDepth 100000
set_option maxHeartbeats 4000000
namespace Ms
open PySem PySem.Spec PyProof.Rows L2 Mp Mg Mh

def dF (x : Str) (st : Stmt) : He.DefD := ⟨(x, none), x, x, defArgs st, defBody st, defScope st, [], []⟩
def dM (C m q : Str) (st : Stmt) : He.DefD := ⟨(C, some m), m, q, defArgs st, defBody st, defScope st, [], []⟩
def fn : List He.DefD := [dF "_law_mix" s__law_mix, dF "first_standing" s_first_standing, dF "has_enough" s_has_enough, dF "people_with" s_people_with, dF "does_count" s_does_count, dF "counting_at" s_counting_at, dF "goes_out" s_goes_out, dF "send_findings" s_send_findings, dF "lost_people" s_lost_people, dF "findings_of" s_findings_of, dF "is_sent" s_is_sent, dF "is_thing" s_is_thing, dF "is_one_of" s_is_one_of, dF "is_integer" s_is_integer, dF "is_deed" s_is_deed, dF "index_of" s_index_of, dF "replaced" s_replaced, dF "stale" s_stale, dF "put_together" s_put_together, dF "led_to" s_led_to, dF "replay" s_replay, dF "are_of" s_are_of, dF "is_binding" s_is_binding, dF "is_person" s_is_person, dF "is_name" s_is_name, dF "look_at_people" s_look_at_people, dF "are_parts" s_are_parts, dF "_law_book_of" s__law_book_of, dF "_law_pieces" s__law_pieces, dF "_law_next" s__law_next, dF "look_at_thing" s_look_at_thing, dF "counting" s_counting, dF "asks" s_asks, dF "law" s_law, dF "subsets" s_subsets, dM "Record" "__init__" "Record.__init__" s_Record___init__, dM "Record" "take_in" "Record.take_in" s_Record_take_in, dM "Hand" "__init__" "Hand.__init__" s_Hand___init__, dM "Hand" "copy_main" "Hand.copy_main" s_Hand_copy_main, dM "Hand" "taken" "Hand.taken" s_Hand_taken, dM "Hand" "take" "Hand.take" s_Hand_take, dM "Hand" "put_note" "Hand.put_note" s_Hand_put_note, dM "Hand" "do" "Hand.do" s_Hand_do, dM "Hand" "standing" "Hand.standing" s_Hand_standing, dM "Hand" "note" "Hand.note" s_Hand_note, dM "Hand" "can_be" "Hand.can_be" s_Hand_can_be, dM "Book" "__init__" "Book.__init__" s_Book___init__]
def fa : List He.Fa := [.glo "_law_mix", .glo "first_standing", .glo "has_enough", .glo "people_with", .glo "does_count", .glo "counting_at", .glo "goes_out", .glo "send_findings", .glo "lost_people", .glo "findings_of", .glo "is_sent", .glo "is_thing", .glo "is_one_of", .glo "is_integer", .glo "is_deed", .glo "index_of", .glo "replaced", .glo "stale", .glo "put_together", .glo "led_to", .glo "replay", .glo "are_of", .glo "is_binding", .glo "is_person", .glo "is_name", .glo "look_at_people", .glo "are_parts", .glo "_law_book_of", .glo "_law_pieces", .glo "_law_next", .glo "look_at_thing", .glo "counting", .glo "asks", .glo "law", .glo "subsets", .glo "Book", .glo "Hand", .glo "Record", .free "all", .free "bool", .free "dict", .free "enumerate", .free "int", .free "isinstance", .free "len", .free "list", .free "max", .free "range", .free "set", .free "sorted", .free "str", .free "tuple", .free "zip", .str "COPY" "copy", .str "LETTERS" "abcdefghijklmnopqrstuvwxyz", .str "MAIN" "main", .str "SEND" "send", .str "SIGN" "sign", .str "SPARE" "spare", .str "TAKE" "take", .str "UNSIGN" "unsign", .str "WRITE" "write", .int "MOST_NAME" 8, .int "MOST_NAMES" 3, .int "MOST_NEEDED" 3, .glo "BINDINGS", .glo "MANNERS", .glo "NOTHING", .glo "THINGS", .glo "WORDS", .glo "SIZES", .cls "Hand", .cls "Record", .noat "Hand" "plan", .noat "Hand" "held", .noat "Hand" "noted", .noat "Record" "plan", .noat "Record" "at", .noat "Record" "done", .noat "Record" "sends", .noat "Record" "told_findings", .mkr "Book", .mkr "Hand", .mkr "Record", .meth "Record" "take_in", .meth "Hand" "copy_main", .meth "Hand" "taken", .meth "Hand" "take", .meth "Hand" "put_note", .meth "Hand" "do", .meth "Hand" "standing", .meth "Hand" "note", .meth "Hand" "can_be"]
def ts : List He.Tab := [((fun K => He.ga K "SIZES"), ["copy", "send", "sign", "take", "unsign", "write"])]
def tf : List He.Defn := [("send_findings", none)]
def ps : List DefP := [(("Record", "notes"), dM "Record" "notes" "Record.notes" s_Record_notes), (("Record", "sent"), dM "Record" "sent" "Record.sent" s_Record_sent), (("Record", "found"), dM "Record" "found" "Record.found" s_Record_found)]
def exB (K : PySem.W.Frag) : Bool := noListB K && (He.tupB K "BINDINGS" [.str "edition", .str "name", .str "part", .str "whole"] && (He.tupB K "MANNERS" [.str "carry", .str "drop"] && (He.tupB K "NOTHING" [.non, .non, .non] && (He.tupB K "THINGS" [.str "main", .str "spare"] && (He.tupB K "WORDS" [.str "copy", .str "take", .str "unsign", .str "write"] && (sclB K (He.ga K "Book") && (sltB K (He.ga K "Book") "copy_word" 0 && (sltB K (He.ga K "Book") "needed" 1 && (sltB K (He.ga K "Book") "persons" 2 && (sltB K (He.ga K "Book") "size" 3 && (sltB K (He.ga K "Book") "take_word" 4 && (sltB K (He.ga K "Book") "told" 5 && (PySem.W.isClsIn K (He.ga K "Hand") && (PySem.W.isClsIn K (He.ga K "Record") && (dvB K (He.ga K "SIZES") [1, 2, 3, 2, 3, 4])))))))))))))))
abbrev R : PySem.W.OpenRow := PySem.W.OpenLaw.row PySem.Challenge.rw_signedoff_k20_a_known_book
abbrev hk : PySem.W.Hook := hookP 5 fa fn ts tf ps exB
def ob (s : PySem.W.SharedT) : AlP := obsP 5 fa fn ts tf ps exB (HandSHeadRun.getT s)
theorem ob_eq (s : PySem.W.SharedT) : ob s = hk.obs s.abs := obsP_eq (HandSHeadRun.getT_eq s)
def loose0 : List PySem.Str := [("SignError" : PySem.Str), ("InvalidParts" : PySem.Str), ("InvalidPerson" : PySem.Str), ("InvalidContents" : PySem.Str), ("InvalidManner" : PySem.Str), ("InvalidWords" : PySem.Str), ("UnknownPerson" : PySem.Str), ("InvalidDeed" : PySem.Str), ("UnknownThing" : PySem.Str), ("LETTERS" : PySem.Str), ("MOST_NAME" : PySem.Str), ("MOST_NAMES" : PySem.Str), ("MOST_NEEDED" : PySem.Str), ("BINDINGS" : PySem.Str), ("MANNERS" : PySem.Str), ("WORDS" : PySem.Str), ("is_integer" : PySem.Str), ("is_name" : PySem.Str), ("are_parts" : PySem.Str), ("are_of" : PySem.Str), ("is_binding" : PySem.Str), ("is_person" : PySem.Str), ("look_at_people" : PySem.Str), ("Book" : PySem.Str), ("MAIN" : PySem.Str), ("SPARE" : PySem.Str), ("THINGS" : PySem.Str), ("NOTHING" : PySem.Str), ("COPY" : PySem.Str), ("SEND" : PySem.Str), ("SIGN" : PySem.Str), ("TAKE" : PySem.Str), ("UNSIGN" : PySem.Str), ("WRITE" : PySem.Str), ("SIZES" : PySem.Str)]
def loose1 : List PySem.Str := [("is_thing" : PySem.Str), ("is_one_of" : PySem.Str), ("is_deed" : PySem.Str), ("first_standing" : PySem.Str), ("index_of" : PySem.Str), ("replaced" : PySem.Str), ("stale" : PySem.Str), ("put_together" : PySem.Str), ("Hand" : PySem.Str), ("does_count" : PySem.Str), ("counting_at" : PySem.Str), ("has_enough" : PySem.Str), ("people_with" : PySem.Str), ("goes_out" : PySem.Str), ("send_findings" : PySem.Str), ("lost_people" : PySem.Str), ("findings_of" : PySem.Str), ("led_to" : PySem.Str), ("is_sent" : PySem.Str), ("Record" : PySem.Str), ("replay" : PySem.Str), ("look_at_thing" : PySem.Str), ("counting" : PySem.Str), ("subsets" : PySem.Str), ("asks" : PySem.Str), ("_law_mix" : PySem.Str), ("_law_next" : PySem.Str), ("_law_book_of" : PySem.Str), ("_law_pieces" : PySem.Str)]
def loose : List PySem.Str := loose0 ++ loose1
end Ms
set_option Elab.async false
set_option linter.all false
set_option maxRecDepth 100000
set_option maxHeartbeats 0
namespace Ms
open PySem PySem.Spec PyProof.Rows L2 Mp Mg Mh
theorem run_false (w : World) : HandSHeadRun.RunEq R (PySem.W.view R.prog [70]) hk ob 20000 loose (w.withFollow "special-get-raises" false) := by
  intro os
  kernel_rfl
end Ms
set_option Elab.async false
set_option linter.all false
set_option maxRecDepth 100000
set_option maxHeartbeats 0
namespace Ms
open PySem PySem.Spec PyProof.Rows L2 Mp Mg Mh
theorem run_true (w : World) : HandSHeadRun.RunEq R (PySem.W.view R.prog [70]) hk ob 20000 loose (w.withFollow "special-get-raises" true) := by
  intro os
  kernel_rfl
end Ms
set_option linter.all false
namespace Mp
open PySem

inductive W where
  | non | bl (b : Bool) | int (i : Int) | str (x : Str)
  | tup (ws : List W) | lst (ws : List W) | dic (es : List W) | kv (k v : W)
  | ins (c : Nat) (es : List W) | ref (l : Nat) | clo (f : Nat) (caps : List W)

inductive MObj where
  | lst (ws : List W) | dic (es : List W) | ins (c : Nat) (es : List W) | frz (w : W)
abbrev Store := List MObj
abbrev Sg := List (Option W)

inductive Out (α : Type) where
  | ok (a : α) (M : Store) | exc (c : Nat) (es : List W) (M : Store) | fail
def Out.bind {α β : Type} : Out α → (α → Store → Out β) → Out β
  | .ok a M, f => f a M
  | .exc c es M, _ => .exc c es M
  | .fail, _ => .fail
/-- nothing is raised -/
def calmO {α : Type} : Out α → Out α
  | .exc _ _ _ => .fail
  | o => o
def Out.lift {α : Type} (o : Option α) (M : Store) : Out α := match o with
  | some a => .ok a M
  | none => .fail

/-! ### equality -/
def bInt (b : Bool) : Int := match b with
  | true => 1
  | false => 0
def oAnd : Option Bool → Option Bool → Option Bool
  | some a, some b => some (a && b)
  | _, _ => none
mutual
/-- may be a key, so deep -/
def keyOk : Nat → W → Bool
  | _, .non => true | _, .bl _ => true | _, .int _ => true | _, .str _ => true
  | n + 1, .tup ws => keyOks n ws
  | _, _ => false
def keyOks : Nat → List W → Bool
  | _, [] => true
  | n, w :: ws => keyOk n w && keyOks n ws
end
mutual
/-- == of keys -/
def keq : W → W → Bool
  | .non, .non => true
  | .bl a, .bl b => decide (bInt a = bInt b)
  | .bl a, .int i => decide (bInt a = i)
  | .int i, .bl a => decide (i = bInt a)
  | .int i, .int j => decide (i = j)
  | .str x, .str y => decide (x = y)
  | .tup xs, .tup ys => keqs xs ys
  | _, _ => false
def keqs : List W → List W → Bool
  | [], [] => true
  | x :: xs, y :: ys => keq x y && keqs xs ys
  | _, _ => false
end
def isStrW : W → Bool
  | .str _ => true
  | _ => false
/-- all keys are texts -/
def strKeys : List W → Bool
  | [] => true
  | .kv k _ :: r => isStrW k && strKeys r
  | _ :: _ => false
def getE (k : W) : List W → Option W
  | [] => none
  | .kv k' v :: r => match keq k' k with
    | true => some v
    | false => getE k r
  | _ :: _ => none
def all2 (f : W → W → Option Bool) : List W → List W → Option Bool
  | [], [] => some true
  | x :: xs, y :: ys => oAnd (f x y) (all2 f xs ys)
  | [], _ :: _ => none
  | _ :: _, [] => none
/-- == of data without dicts; none where something else stands within -/
def eqa : Nat → W → W → Option Bool
  | n + 1, .lst xs, .lst ys => match decide (xs.length = ys.length) with
    | true => all2 (eqa n) xs ys
    | false => some false
  | _, a, b => match keyOk 8 a && keyOk 8 b with
    | true => some (keq a b)
    | false => none
/-- each entry of the first stands in the second with an equal value -/
def subD (f : W → W → Option Bool) : List W → List W → Option Bool
  | [], _ => some true
  | .kv k v :: es, fs => match getE k fs with
    | some u => oAnd (f v u) (subD f es fs)
    | none => some false
  | _ :: _, _ => none
def eqo : Nat → W → W → Option Bool
  | n + 1, .lst xs, .lst ys => match decide (xs.length = ys.length) with
    | true => all2 (eqo n) xs ys
    | false => some false
  | n + 1, .dic es, .dic fs => match strKeys es && strKeys fs with
    | true => match decide (es.length = fs.length) with
      | true => subD (eqo n) es fs
      | false => some false
    | false => none
  | _, a, b => match keyOk 8 a && keyOk 8 b with
    | true => some (keq a b)
    | false => none
def isDic : W → Bool
  | .dic _ => true
  | _ => false

/-! ### small readers -/
def lenOk (n : Nat) : Bool := Nat.ble n 16777216
/-- an object of the store, seen as data -/
def rd (M : Store) : W → W
  | .ref l => match M[l]? with
    | some (.lst ws) => .lst ws
    | some (.dic es) => .dic es
    | some (.frz w) => w
    | _ => .ref l
  | w => w
mutual
/-- no place of the store within -/
def inl : W → Bool
  | .non => true | .bl _ => true | .int _ => true | .str _ => true
  | .tup ws => inls ws | .lst ws => inls ws | .dic es => inls es
  | .kv k v => inl k && inl v
  | .ins _ es => inls es
  | .ref _ => false | .clo _ _ => false
def inls : List W → Bool
  | [] => true
  | w :: r => inl w && inls r
end
def lstOf (M : Store) (w : W) : Option (List W) := match rd M w with
  | .lst ws => some ws
  | _ => none
def seqOf (M : Store) (w : W) : Option (List W) := match rd M w with
  | .lst ws => some ws
  | .tup ws => some ws
  | _ => none
def dicOf (M : Store) (w : W) : Option (List W) := match rd M w with
  | .dic es => some es
  | _ => none
def mkL (fz : Bool) (ws : List W) (M : Store) : Out W := match lenOk ws.length with
  | true => match fz with
    | true => .ok (.lst ws) M
    | false => .ok (.ref M.length) (M ++ [.lst ws])
  | false => .fail
def mkD (fz : Bool) (es : List W) (M : Store) : Out W := match lenOk es.length with
  | true => match fz with
    | true => .ok (.dic es) M
    | false => .ok (.ref M.length) (M ++ [.dic es])
  | false => .fail
def mkT (ws : List W) (M : Store) : Out W := match lenOk ws.length with
  | true => .ok (.tup ws) M
  | false => .fail
def putE (k v : W) : List W → List W
  | [] => [.kv k v]
  | .kv k' v' :: r => match keq k' k with
    | true => .kv k' v :: r
    | false => .kv k' v' :: putE k v r
  | e :: r => e :: putE k v r
def delE (k : W) : List W → List W
  | [] => []
  | .kv k' v' :: r => match keq k' k with
    | true => r
    | false => .kv k' v' :: delE k r
  | e :: r => e :: delE k r
def getK (es : List W) (k : W) : Option (Option W) := match keyOk 8 k with
  | true => some (getE k es)
  | false => none
def putK (es : List W) (k v : W) : Option (List W) := match keyOk 8 k with
  | true => some (putE k v es)
  | false => none
/-- pairs put one after another -/
def putAll : List W → List W → Option (List W)
  | acc, [] => some acc
  | acc, .kv k v :: r => match putK acc k v with
    | some acc' => putAll acc' r
    | none => none
  | _, _ :: _ => none
/-- pairs as entries -/
def asKv : List W → Option (List W)
  | [] => some []
  | .tup [k, v] :: r => match asKv r with
    | some es => some (.kv k v :: es)
    | none => none
  | _ :: _ => none
def keysOf : List W → List W
  | [] => []
  | .kv k _ :: r => k :: keysOf r
  | _ :: r => keysOf r
def valsOf : List W → List W
  | [] => []
  | .kv _ v :: r => v :: valsOf r
  | _ :: r => valsOf r
def itemsOf : List W → List W
  | [] => []
  | .kv k v :: r => .tup [k, v] :: itemsOf r
  | _ :: r => itemsOf r
def fldE (f : Str) : List W → Option W
  | [] => none
  | .kv (.str g) v :: r => match decide (g = f) with
    | true => some v
    | false => fldE f r
  | _ :: _ => none
def putFE (f : Str) (v : W) : List W → List W
  | [] => [.kv (.str f) v]
  | .kv (.str g) w :: r => match decide (g = f) with
    | true => .kv (.str g) v :: r
    | false => .kv (.str g) w :: putFE f v r
  | e :: r => e :: putFE f v r
def signs (x : Str) : List W := x.cps.toList.map fun c => .str ⟨#[c]⟩
def oOr : Option Bool → Option Bool → Option Bool
  | some a, some b => some (a || b)
  | _, _ => none
def memW (x : W) : List W → Option Bool
  | [] => some false
  | y :: r => oOr (eqa 20 y x) (memW x r)
def boolsOf : List W → Option (List Bool)
  | [] => some []
  | .bl b :: r => match boolsOf r with
    | some bs => some (b :: bs)
    | none => none
  | _ :: _ => none
def allB (ws : List W) : Option Bool := match boolsOf ws with
  | some bs => some (bs.all id)
  | none => none
def anyB (ws : List W) : Option Bool := match boolsOf ws with
  | some bs => some (bs.any id)
  | none => none
/-- the place of an index in a row of n -/
def ixOf (i : Int) (n : Nat) : Option Nat := match decide (0 ≤ i) with
  | true => match decide (i < n) with
    | true => some i.toNat
    | false => none
  | false => match decide (0 ≤ i + n) with
    | true => some (i + n).toNat
    | false => none
/-- a slice's bound -/
def bndW (n d : Nat) : Option Int → Nat
  | none => d
  | some v => match decide (v < 0) with
    | true => (v + (n : Int)).toNat
    | false => min v.toNat n
def cutW (lo hi : Option Int) (ws : List W) : List W := (ws.drop (bndW ws.length 0 lo)).take (bndW ws.length ws.length hi - bndW ws.length 0 lo)
def mulOk (i j : Int) : Bool := Nat.blt i.natAbs (2 ^ 64) || Nat.blt j.natAbs (2 ^ 64)
/-- a text's order -/
def leS : List Nat → List Nat → Bool
  | [], _ => true
  | _ :: _, [] => false
  | a :: r, b :: t => match Nat.blt a b with
    | true => true
    | false => match Nat.beq a b with
      | true => leS r t
      | false => false
mutual
/-- the order of what may be sorted: texts, ints, tuples of such -/
def leo : W → W → Option Bool
  | .str x, .str y => some (leS x.cps.toList y.cps.toList)
  | .int i, .int j => some (decide (i ≤ j))
  | .tup xs, .tup ys => leos xs ys
  | _, _ => none
def leos : List W → List W → Option Bool
  | [], _ => some true
  | _ :: _, [] => some false
  | x :: xs, y :: ys => match eqa 20 x y with
    | some true => leos xs ys
    | some false => leo x y
    | none => none
end
/-- x put into a sorted row, behind all that are not greater -/
def insW (x : W) : List W → Option (List W)
  | [] => some [x]
  | y :: r => match leo y x with
    | some true => match insW x r with
      | some r' => some (y :: r')
      | none => none
    | some false => some (x :: y :: r)
    | none => none
def sortW : List W → Option (List W)
  | [] => some []
  | x :: r => match sortW r with
    | some r' => insF x r'
    | none => none
where
  insF (x : W) : List W → Option (List W)
    | [] => some [x]
    | y :: r => match leo x y with
      | some true => some (x :: y :: r)
      | some false => match insF x r with
        | some r' => some (y :: r')
        | none => none
      | none => none
/-- each once, the first of equal ones -/
def onceW : List W → List W → Option (List W)
  | acc, [] => some acc
  | acc, x :: r => match memW x acc with
    | some true => onceW acc r
    | some false => onceW (acc ++ [x]) r
    | none => none

/-! ### the code -/
inductive Ty where
  | non | int | bool | str | tuple | list | dict | cls (c : Nat)
inductive Bi where
  | len | all | any | max | min | int | str | list | tuple | dict | sorted | isinst (t : Ty)
inductive Bn where
  | listZip | dictZip | sortedSet | listItems | listValues | sortedItems
inductive Bm where
  | append | extend | popLast | popAt | insert | clear | index | reverse | get | popKey | update | setdefault | join | split
inductive Tg where
  | n (i : Nat) | t (is : List Nat)
mutual
inductive MExpr where
  | var (i : Nat) | con (w : W) | glo (x : Str) (w : W)
  | bin (fz : Bool) (op : Operator) (a b : MExpr) | cmp (op : CmpOp) (a b : MExpr) | chain (o1 o2 : CmpOp) (a b c : MExpr)
  | neg (a : MExpr) | notE (a : MExpr) | andE (a b : MExpr) | orE (a b : MExpr) | ife (c a b : MExpr)
  | tup (es : MArgs) | lst (fz : Bool) (es : MArgs) | dict (fz : Bool) (es : MPairs)
  | ix (a b : MExpr) | sl (a : MExpr) (lo hi : MOpt) | rev (a : MExpr) | attr (p : Bool) (a : MExpr) (f : Str)
  | call (p : Bool) (f : Nat) (es : MArgs) | callB (fz : Bool) (b : Bi) (es : MArgs) | callN (fz : Bool) (b : Bn) (es : MArgs) | make (c : Nat) (es : MArgs)
  | meth (p : Bool) (c : Nat) (a : MExpr) (m : Str) (es : MArgs) | bmeth (fz : Bool) (a : MExpr) (m : Bm) (es : MArgs) | callV (i : Nat) (es : MArgs)
  | lam (f : Nat) (caps : List Nat)
  | lc (fz : Bool) (own : List Nat) (tg : Tg) (it : MIter) (c : MOpt) (elt : MExpr)
  | lc2 (fz : Bool) (own own1 : List Nat) (tg : Tg) (it : MIter) (tg1 : Tg) (it1 : MIter) (elt : MExpr)
  | dc (fz : Bool) (own : List Nat) (tg : Tg) (it : MIter) (c : MOpt) (k v : MExpr)
  | fstr (es : MArgs) | frz (a : MExpr)
inductive MArgs where
  | nil | one (e : MExpr) (r : MArgs) | star (e : MExpr) (r : MArgs)
inductive MPairs where
  | nil | cons (k v : MExpr) (r : MPairs)
inductive MOpt where
  | none | some (e : MExpr)
inductive MIter where
  | plain (e : MExpr) | enum (e : MExpr) | zip (a b : MExpr) | range (a : MExpr)
end
mutual
inductive MStmt where
  | expr (e : MExpr) | set (t : Tg) (e : MExpr) | setA (o : MExpr) (f : Str) (e : MExpr) | setI (o i e : MExpr) | augA (o : MExpr) (f : Str) (e : MExpr)
  | ret (e : MExpr) | retN | ite (c : MExpr) (a b : MBlk) | forS (t : Tg) (it : MIter) (b : MBlk) | whileS (c : MExpr) (b : MBlk)
  | raise (c : Nat) (es : MArgs) | tryS (b : MBlk) (hs : MHs) | pass
inductive MBlk where
  | nil | cons (s : MStmt) (r : MBlk)
inductive MHs where
  | nil | cons (cs : List Nat) (i : Option Nat) (b : MBlk) (r : MHs)
end

/-! ### what stands around -/
structure ClsI where
  flds : List Str
  props : List (Str × Nat)
  meths : List (Str × Nat)
  init : Nat
  eqf : Option Nat := none
  lenf : Option Nat := none
  itemf : Option Nat := none
structure Gm where
  cls : Nat → Option ClsI
  exf : Nat → List Str
abbrev Orc := Nat → List W → Store → Out W

def memS (f : Str) : List Str → Bool
  | [] => false
  | g :: r => match decide (g = f) with
    | true => true
    | false => memS f r
def lookS (f : Str) : List (Str × Nat) → Option Nat
  | [] => none
  | (g, n) :: r => match decide (g = f) with
    | true => some n
    | false => lookS f r

section
variable (G : Gm) (C : Orc)
/-- the class and the attributes of an instance -/
def insOf (M : Store) (w : W) : Option (Nat × List W) := match rd M w with
  | .ins c es => some (c, es)
  | .ref l => match M[l]? with
    | some (.ins c es) => some (c, es)
    | _ => none
  | _ => none
/-- a call in a store of its own: nothing of the store goes in, nothing comes out -/
def pureC (f : Nat) (ws : List W) (M : Store) : Out W := match inls ws with
  | true => match C f ws [] with
    | .ok w _ => match inl w with
      | true => .ok w M
      | false => .fail
    | .exc c es _ => match inls es with
      | true => .exc c es M
      | false => .fail
    | .fail => .fail
  | false => .fail
def callC (p : Bool) (f : Nat) (ws : List W) (M : Store) : Out W := match p with
  | true => pureC C f ws M
  | false => C f ws M
def methOf (c : Nat) (M : Store) (w : W) (m : Str) : Option Nat := match insOf M w with
  | some (c', es) => match Nat.beq c c' with
    | true => match fldE m es with
      | none => match G.cls c with
        | some i => lookS m i.meths
        | none => none
      | some _ => none
    | false => none
  | none => none
def getAttr (pu : Bool) (w : W) (f : Str) (M : Store) : Out W := match insOf M w with
  | some (c, es) => match G.cls c with
    | some i => match memS f i.flds with
      | true => match fldE f es with
        | some v => .ok v M
        | none => .fail
      | false => match lookS f i.props with
        | some p => calmO (callC C pu p [w] M)
        | none => .fail
    | none => .fail
  | none => .fail
def addW (fz : Bool) : W → W → Store → Out W
  | .int i, .int j, M => .ok (.int (i + j)) M
  | .str x, .str y, M => match lenOk (x.length + y.length) with
    | true => .ok (.str (x ++ y)) M
    | false => .fail
  | .tup xs, .tup ys, M => mkT (xs ++ ys) M
  | a, b, M => match lstOf M a, lstOf M b with
    | some xs, some ys => mkL fz (xs ++ ys) M
    | _, _ => .fail
def subW : W → W → Store → Out W
  | .int i, .int j, M => .ok (.int (i - j)) M
  | _, _, _ => .fail
def repOk (k : Int) (n : Nat) : Bool := decide (0 ≤ k) && (decide (k ≤ 1000) && Nat.ble n 1000)
def multW (fz : Bool) : W → W → Store → Out W
  | .int i, .int j, M => match mulOk i j with
    | true => .ok (.int (i * j)) M
    | false => .fail
  | .tup xs, .int k, M => match decide (1 ≤ k) && (repOk k xs.length && !xs.isEmpty) with
    | true => .ok (.tup (List.replicate k.toNat xs).flatten) M
    | false => .fail
  | _, _, _ => .fail
def fdivW : W → W → Store → Out W
  | .int i, .int j, M => match decide (j ≠ 0) && Nat.blt j.natAbs 1073741824 with
    | true => .ok (.int (i.fdiv j)) M
    | false => .fail
  | _, _, _ => .fail
def modW : W → W → Store → Out W
  | .int i, .int j, M => match decide (j ≠ 0) with
    | true => .ok (.int (i.fmod j)) M
    | false => .fail
  | _, _, _ => .fail
def powW : W → W → Store → Out W
  | .int i, .int j, M => match decide (0 ≤ j) && (decide (j ≤ 1000000) && Nat.blt i.natAbs (2 ^ 64)) with
    | true => .ok (.int (i ^ j.toNat)) M
    | false => .fail
  | _, _, _ => .fail
def binop (fz : Bool) (op : Operator) (a b : W) (M : Store) : Out W := match op with
  | .Add => addW fz a b M
  | .Sub => subW a b M
  | .Mult => multW fz a b M
  | .FloorDiv => fdivW a b M
  | .Mod => modW a b M
  | .Pow => powW a b M
  | _ => .fail
def isNon : W → Bool
  | .non => true
  | _ => false
def blO (o : Option Bool) (M : Store) : Out W := match o with
  | some b => .ok (.bl b) M
  | none => .fail
def notO (o : Option Bool) (M : Store) : Out W := match o with
  | some b => .ok (.bl (!b)) M
  | none => .fail
def isIn (M : Store) (a b : W) : Option Bool := match rd M b with
  | .tup ws => memW a ws
  | .lst ws => memW a ws
  | .dic es => match getK es a with
    | some o => some o.isSome
    | none => none
  | .str z => match a with
    | .str ⟨⟨[c]⟩⟩ => some (decide (c ∈ z.cps.toList))
    | _ => none
  | _ => none
def eqW (a b : W) (M : Store) : Out W := match insOf M a with
  | some (c, _) => match G.cls c with
    | some i => match i.eqf with
      | some f => C f [a, b] M
      | none => .fail
    | none => .fail
  | none => blO (eqo 20 (rd M a) (rd M b)) M
def neW (a b : W) (M : Store) : Out W := match isDic (rd M a) with
  | true => notO (eqo 20 (rd M a) (rd M b)) M
  | false => notO (eqa 20 (rd M a) (rd M b)) M
def ltW : W → W → Store → Out W
  | .int i, .int j, M => .ok (.bl (decide (i < j))) M
  | _, _, _ => .fail
def leW : W → W → Store → Out W
  | .int i, .int j, M => .ok (.bl (decide (i ≤ j))) M
  | _, _, _ => .fail
def gtW : W → W → Store → Out W
  | .int i, .int j, M => .ok (.bl (decide (j < i))) M
  | _, _, _ => .fail
def geW : W → W → Store → Out W
  | .int i, .int j, M => .ok (.bl (decide (j ≤ i))) M
  | _, _, _ => .fail
def isW : W → W → Store → Out W
  | a, .non, M => .ok (.bl (isNon a)) M
  | .bl a, .bl b, M => .ok (.bl (a == b)) M
  | _, _, _ => .fail
def isNotW : W → W → Store → Out W
  | a, .non, M => .ok (.bl (!isNon a)) M
  | _, _, _ => .fail
def cmpop (op : CmpOp) (a b : W) (M : Store) : Out W := match op with
  | .Eq => eqW G C a b M
  | .NotEq => neW a b M
  | .Lt => ltW a b M
  | .LtE => leW a b M
  | .Gt => gtW a b M
  | .GtE => geW a b M
  | .Is => isW a b M
  | .IsNot => isNotW a b M
  | .In => blO (isIn M a b) M
  | .NotIn => notO (isIn M a b) M
def tagOf : W → Option Ty
  | .non => some .non | .bl _ => some .bool | .int _ => some .int | .str _ => some .str | .tup _ => some .tuple | .lst _ => some .list | .dic _ => some .dict
  | _ => none
def isTab : Ty → Ty → Bool
  | .bool, .int => true
  | .non, .non => true | .bool, .bool => true | .int, .int => true | .str, .str => true | .tuple, .tuple => true | .list, .list => true | .dict, .dict => true
  | _, _ => false
def isTy (M : Store) (w : W) : Ty → Option Bool
  | .cls c => match rd M w with
    | .ins d _ => match Nat.beq c d with
      | true => some true
      | false => none
    | u => match tagOf u with
      | some _ => some false
      | none => none
  | t => match tagOf (rd M w) with
    | some a => some (isTab a t)
    | none => none
/-- what list(..), tuple(..), sorted(..) take out of a value -/
def takeOf (M : Store) (w : W) : Option (List W) := match rd M w with
  | .lst ws => some ws
  | .tup ws => some ws
  | .dic es => some (keysOf es)
  | _ => none
def lenOf (M : Store) (w : W) : Option Nat := match rd M w with
  | .lst ws => some ws.length
  | .tup ws => some ws.length
  | .dic es => some es.length
  | .str x => match lenOk x.length with
    | true => some x.length
    | false => none
  | _ => none
def lenW (w : W) (M : Store) : Out W := match insOf M w with
  | some (c, _) => match G.cls c with
    | some i => match i.lenf with
      | some f => C f [w] M
      | none => .fail
    | none => .fail
  | none => match lenOf M w with
    | some n => .ok (.int n) M
    | none => .fail
def allW (w : W) (M : Store) : Out W := match lstOf M w with
  | some ws => blO (allB ws) M
  | none => .fail
def anyW (w : W) (M : Store) : Out W := match lstOf M w with
  | some ws => blO (anyB ws) M
  | none => .fail
def maxW : W → W → Store → Out W
  | .int i, .int j, M => .ok (.int (match decide (i < j) with | true => j | false => i)) M
  | _, _, _ => .fail
def minW : W → W → Store → Out W
  | .int i, .int j, M => .ok (.int (match decide (j < i) with | true => j | false => i)) M
  | _, _, _ => .fail
def intW : W → Store → Out W
  | .int i, M => .ok (.int i) M
  | .bl b, M => .ok (.int (bInt b)) M
  | _, _ => .fail
def listW (fz : Bool) (w : W) (M : Store) : Out W := match takeOf M w with
  | some ws => mkL fz ws M
  | none => .fail
def tupleW (w : W) (M : Store) : Out W := match seqOf M w with
  | some ws => mkT ws M
  | none => .fail
def dictW (fz : Bool) (w : W) (M : Store) : Out W := match dicOf M w with
  | some es => mkD fz es M
  | none => match lstOf M w with
    | some ws => match asKv ws with
      | some es => match putAll [] es with
        | some es' => mkD fz es' M
        | none => .fail
      | none => .fail
    | none => .fail
def sortedW (fz : Bool) (w : W) (M : Store) : Out W := match lstOf M w with
  | some ws => match sortW ws with
    | some ws' => mkL fz ws' M
    | none => .fail
  | none => .fail
def biB (fz : Bool) (b : Bi) (ws : List W) (M : Store) : Out W := match b, ws with
  | .len, [w] => lenW G C w M
  | .all, [w] => allW w M
  | .any, [w] => anyW w M
  | .max, [a, b] => maxW a b M
  | .min, [a, b] => minW a b M
  | .int, [w] => intW w M
  | .list, [w] => listW fz w M
  | .tuple, [w] => tupleW w M
  | .dict, [w] => dictW fz w M
  | .sorted, [w] => sortedW fz w M
  | .isinst t, [w] => blO (isTy M w t) M
  | _, _ => .fail
def zipT (xs ys : List W) : List W := List.zipWith (fun x y => .tup [x, y]) xs ys
def zipK (xs ys : List W) : List W := List.zipWith (fun x y => .kv x y) xs ys
def listZipW (fz : Bool) (a b : W) (M : Store) : Out W := match takeOf M a, takeOf M b with
  | some xs, some ys => mkL fz (zipT xs ys) M
  | _, _ => .fail
def dictZipW (fz : Bool) (a b : W) (M : Store) : Out W := match takeOf M a, takeOf M b with
  | some xs, some ys => match putAll [] (zipK xs ys) with
    | some es => mkD fz es M
    | none => .fail
  | _, _ => .fail
def sortedSetW (fz : Bool) (a : W) (M : Store) : Out W := match seqOf M a with
  | some ws => match onceW [] ws with
    | some ws' => match sortW ws' with
      | some ws2 => mkL fz ws2 M
      | none => .fail
    | none => .fail
  | none => .fail
def listItemsW (fz : Bool) (a : W) (M : Store) : Out W := match dicOf M a with
  | some es => mkL fz (itemsOf es) M
  | none => .fail
def listValuesW (fz : Bool) (a : W) (M : Store) : Out W := match dicOf M a with
  | some es => mkL fz (valsOf es) M
  | none => .fail
def bnB (fz : Bool) (b : Bn) (ws : List W) (M : Store) : Out W := match b, ws with
  | .listZip, [a, b] => listZipW fz a b M
  | .dictZip, [a, b] => dictZipW fz a b M
  | .sortedSet, [a] => sortedSetW fz a M
  | .listItems, [a] => listItemsW fz a M
  | .listValues, [a] => listValuesW fz a M
  | _, _ => .fail
/-- a method of a built-in type -/
def appendW (a w : W) (M : Store) : Out W := match a with
  | .ref l => match M[l]? with
    | some (.lst ws) => match lenOk (ws.length + 1) with
      | true => .ok .non (M.set l (.lst (ws ++ [w])))
      | false => .fail
    | _ => .fail
  | _ => .fail
def extendW (a w : W) (M : Store) : Out W := match a with
  | .ref l => match M[l]?, lstOf M w with
    | some (.lst ws), some xs => match lenOk (ws.length + xs.length) with
      | true => .ok .non (M.set l (.lst (ws ++ xs)))
      | false => .fail
    | _, _ => .fail
  | _ => .fail
def popLastW (a : W) (M : Store) : Out W := match a with
  | .ref l => match M[l]? with
    | some (.lst ws) => match ws.getLast? with
      | some w => .ok w (M.set l (.lst ws.dropLast))
      | none => .fail
    | _ => .fail
  | _ => .fail
def findS (x : Str) : List W → Option (Option Nat)
  | [] => some none
  | .str y :: r => match decide (y = x) with
    | true => match findS x r with
      | some _ => some (some 0)
      | none => none
    | false => match findS x r with
      | some (some n) => some (some (n + 1))
      | o => o
  | _ :: _ => none
def indexW (a w : W) (M : Store) : Out W := match lstOf M a, w with
  | some ws, .str x => match findS x ws with
    | some (some n) => .ok (.int n) M
    | _ => .fail
  | _, _ => .fail
def getW (a k d : W) (M : Store) : Out W := match dicOf M a with
  | some es => match getK es k with
    | some (some v) => .ok v M
    | some none => .ok d M
    | none => .fail
  | none => .fail
def popKeyW (a k d : W) (M : Store) : Out W := match a with
  | .ref l => match M[l]? with
    | some (.dic es) => match getK es k with
      | some (some v) => .ok v (M.set l (.dic (delE k es)))
      | some none => .ok d M
      | none => .fail
    | _ => .fail
  | _ => .fail
def updateW (a w : W) (M : Store) : Out W := match a with
  | .ref l => match M[l]?, dicOf M w with
    | some (.dic es), some fs => match putAll es fs with
      | some es' => match lenOk es'.length with
        | true => .ok .non (M.set l (.dic es'))
        | false => .fail
      | none => .fail
    | _, _ => .fail
  | _ => .fail
def clearW (a : W) (M : Store) : Out W := match a with
  | .ref l => match M[l]? with
    | some (.dic _) => .ok .non (M.set l (.dic []))
    | some (.lst _) => .ok .non (M.set l (.lst []))
    | _ => .fail
  | _ => .fail
/-- the receiver is of the method's type -/
def recvOk (m : Bm) (M : Store) (w : W) : Bool := match m with
  | .append => (lstOf M w).isSome | .extend => (lstOf M w).isSome | .popLast => (lstOf M w).isSome | .index => (lstOf M w).isSome
  | .get => (dicOf M w).isSome | .popKey => (dicOf M w).isSome | .update => (dicOf M w).isSome
  | _ => false
def bmB (fz : Bool) (m : Bm) (a : W) (ws : List W) (M : Store) : Out W := match m, ws with
  | .append, [w] => appendW a w M
  | .extend, [w] => extendW a w M
  | .popLast, [] => popLastW a M
  | .index, [w] => indexW a w M
  | .get, [k, d] => getW a k d M
  | .popKey, [k, d] => popKeyW a k d M
  | .update, [w] => updateW a w M
  | .clear, [] => clearW a M
  | _, _ => .fail
def ixW (a b : W) (M : Store) : Out W := match rd M a with
  | .dic es => match getK es b with
    | some (some v) => .ok v M
    | _ => .fail
  | _ => match seqOf M a, b with
    | some ws, .int i => match ixOf i ws.length with
      | some n => match ws[n]? with
        | some w => .ok w M
        | none => .fail
      | none => .fail
    | _, _ => .fail
def slW (a : W) (lo hi : Option Int) (M : Store) : Out W := match rd M a with
  | .tup ws => .ok (.tup (cutW lo hi ws)) M
  | .lst ws => .ok (.lst (cutW lo hi ws)) M
  | _ => .fail
mutual
/-- objects of the store become data for good, with all within -/
def frzW : Nat → W → Store → Option (W × Store)
  | 0, _, _ => none
  | n + 1, .ref l, M => match M[l]? with
    | some (.lst ws) => match frzs n ws (M.set l (.frz (.lst ws))) with
      | some (us, M1) => some (.lst us, M1.set l (.frz (.lst us)))
      | none => none
    | some (.dic es) => match frzs n es (M.set l (.frz (.dic es))) with
      | some (us, M1) => some (.dic us, M1.set l (.frz (.dic us)))
      | none => none
    | some (.ins c (e :: es)) => match frzs n (e :: es) (M.set l (.frz (.ins c (e :: es)))) with
      | some (us, M1) => some (.ins c us, M1.set l (.frz (.ins c us)))
      | none => none
    | some (.ins _ []) => none
    | some (.frz w) => frzW n w M
    | none => none
  | n + 1, .lst ws, M => match frzs n ws M with
    | some (us, M1) => some (.lst us, M1)
    | none => none
  | n + 1, .tup ws, M => match frzs n ws M with
    | some (us, M1) => some (.tup us, M1)
    | none => none
  | n + 1, .dic ws, M => match frzs n ws M with
    | some (us, M1) => some (.dic us, M1)
    | none => none
  | n + 1, .ins c ws, M => match frzs n ws M with
    | some (us, M1) => some (.ins c us, M1)
    | none => none
  | n + 1, .kv k v, M => match frzW n v M with
    | some (u, M1) => some (.kv k u, M1)
    | none => none
  | _ + 1, .non, M => some (.non, M)
  | _ + 1, .bl b, M => some (.bl b, M)
  | _ + 1, .int i, M => some (.int i, M)
  | _ + 1, .str x, M => some (.str x, M)
  | _ + 1, .clo _ _, _ => none
def frzs : Nat → List W → Store → Option (List W × Store)
  | 0, _, _ => none
  | _ + 1, [], M => some ([], M)
  | n + 1, w :: r, M => match frzW n w M with
    | some (u, M1) => match frzs n r M1 with
      | some (us, M2) => some (u :: us, M2)
      | none => none
    | none => none
end
def freezeW (w : W) (M : Store) : Out W := match inl w with
  | true => .ok w M
  | false => match frzW 100000 w M with
    | some (u, M1) => .ok u M1
    | none => .fail
/-- a store to a name, to names -/
def manyT : List Nat → List W → Sg → Option Sg
  | [], [], σ => some σ
  | i :: is, w :: ws, σ => manyT is ws (σ.set i (some w))
  | _, _, _ => none
def asgT : Tg → W → Sg → Store → Option Sg
  | .n i, w, σ, _ => some (σ.set i (some w))
  | .t is, .tup ws, σ, _ => manyT is ws σ
  | _, _, _, _ => none
def wipeW (σ : Sg) : List Nat → Sg
  | [] => σ
  | v :: vs => (wipeW σ vs).set v none
/-- a row made item by item -/
def flatL (f : W → Store → Out (List W)) : List W → Store → Out (List W)
  | [], M => .ok [] M
  | x :: r, M => (f x M).bind fun ws M1 => (flatL f r M1).bind fun ws' M2 => .ok (ws ++ ws') M2
def tstW (o : Out W) : Out Bool := match o with
  | .ok (.bl b) M => .ok b M
  | .ok _ _ => .fail
  | .exc c es M => .exc c es M
  | .fail => .fail
def capsOf (σ : Sg) : List Nat → Option (List W)
  | [] => some []
  | i :: r => match σ[i]? with
    | some (some w) => match capsOf σ r with
      | some ws => some (w :: ws)
      | none => none
    | _ => none
def enumT : Nat → List W → List W
  | _, [] => []
  | n, x :: r => .tup [.int n, x] :: enumT (n + 1) r
def rangeW (k : Int) : List W := (List.range k.toNat).map fun (n : Nat) => W.int (n : Int)
/-- data that is walked, as a row -/
def walkW : W → Option (List W)
  | .lst ws => some ws
  | .tup ws => some ws
  | .dic es => some (keysOf es)
  | _ => none
/-- for .. in e: what e is, as data -/
def plainIt (w : W) (M : Store) : Out (List W) := match w with
  | .lst ws => .ok ws M
  | .tup ws => .ok ws M
  | .dic es => .ok (keysOf es) M
  | .str x => .ok (signs x) M
  | _ => .fail
def enumIt (w : W) (M : Store) : Out (List W) := match walkW w with
  | some ws => .ok (enumT 0 ws) M
  | none => .fail
def zipIt (a b : W) (M : Store) : Out (List W) := match walkW a, walkW b with
  | some xs, some ys => .ok (zipT xs ys) M
  | _, _ => .fail
def rangeO (w : W) (M : Store) : Out (List W) := match w with
  | .int k => match decide (k ≤ 1000000000) && decide (-1000000000 ≤ k) with
    | true => .ok (rangeW k) M
    | false => .fail
  | _ => .fail
def newW (c : Nat) (ws : List W) (M : Store) : Out W := match G.cls c with
  | some i => match C i.init (.ref M.length :: ws) (M ++ [.ins c []]) with
    | .ok .non M' => .ok (.ref M.length) M'
    | .ok _ _ => .fail
    | .exc d es M' => .exc d es M'
    | .fail => .fail
  | none => .fail
/-- a name's value; what is no data isn't read -/
def varW (i : Nat) (σ : Sg) (M : Store) : Out W := match σ[i]? with
  | some (some (.clo _ _)) => .fail
  | some (some w) => .ok w M
  | _ => .fail
mutual
def ev : MExpr → Sg → Store → Out W
  | .var i, σ, M => varW i σ M
  | .con w, _, M => .ok w M
  | .glo _ w, _, M => .ok w M
  | .bin fz op a b, σ, M => (ev a σ M).bind fun x M1 => (ev b σ M1).bind fun y M2 => binop fz op x y M2
  | .cmp op a b, σ, M => (ev a σ M).bind fun x M1 => (ev b σ M1).bind fun y M2 => cmpop G C op x y M2
  | .chain o1 o2 a b c, σ, M => (ev a σ M).bind fun x M1 => (ev b σ M1).bind fun y M2 => (tstW (cmpop G C o1 x y M2)).bind fun k M3 => match k with
    | true => (ev c σ M3).bind fun z M4 => cmpop G C o2 y z M4
    | false => .ok (.bl false) M3
  | .neg a, σ, M => (ev a σ M).bind fun x M1 => match x with
    | .int i => .ok (.int (-i)) M1
    | _ => .fail
  | .notE a, σ, M => (tstW (ev a σ M)).bind fun k M1 => .ok (.bl (!k)) M1
  | .andE a b, σ, M => (tstW (ev a σ M)).bind fun k M1 => match k with
    | true => ev b σ M1
    | false => .ok (.bl false) M1
  | .orE a b, σ, M => (tstW (ev a σ M)).bind fun k M1 => match k with
    | true => .ok (.bl true) M1
    | false => ev b σ M1
  | .ife c a b, σ, M => (tstW (ev c σ M)).bind fun k M1 => match k with
    | true => ev a σ M1
    | false => ev b σ M1
  | .tup es, σ, M => (evs es σ M).bind mkT
  | .lst fz es, σ, M => (evs es σ M).bind (mkL fz)
  | .dict fz es, σ, M => (evp es σ M).bind fun kvs M1 => match putAll [] kvs with
    | some es' => mkD fz es' M1
    | none => .fail
  | .ix a b, σ, M => (ev a σ M).bind fun x M1 => (ev b σ M1).bind fun y M2 => ixW x y M2
  | .sl a lo hi, σ, M => (ev a σ M).bind fun x M1 => (evo lo σ M1).bind fun l M2 => (evo hi σ M2).bind fun h M3 => slW x l h M3
  | .rev a, σ, M => (ev a σ M).bind fun x M1 => match lstOf M1 x with
    | some ws => .ok (.lst ws.reverse) M1
    | none => .fail
  | .attr p a f, σ, M => (ev a σ M).bind fun x M1 => getAttr G C p x f M1
  | .call p f es, σ, M => (evs es σ M).bind fun ws M1 => callC C p f ws M1
  | .callB fz b es, σ, M => (evs es σ M).bind fun ws M1 => biB G C fz b ws M1
  | .callN fz b es, σ, M => (evs es σ M).bind fun ws M1 => bnB fz b ws M1
  | .make c es, σ, M => (evs es σ M).bind fun ws M1 => newW G C c ws M1
  | .meth p c a m es, σ, M => (ev a σ M).bind fun x M1 => match methOf G c M1 x m with
    | some f => (evs es σ M1).bind fun ws M2 => callC C p f (x :: ws) M2
    | none => .fail
  | .bmeth fz a m es, σ, M => (ev a σ M).bind fun x M1 => match recvOk m M1 x with
    | true => (evs es σ M1).bind fun ws M2 => bmB fz m x ws M2
    | false => .fail
  | .callV i es, σ, M => match σ[i]? with
    | some (some (.clo f caps)) => (evs es σ M).bind fun ws M1 => C f (ws ++ caps) M1
    | _ => .fail
  | .lam f caps, σ, M => match capsOf σ caps with
    | some ws => .ok (.clo f ws) M
    | none => .fail
  | .lc fz own tg it c elt, σ, M => (evi it σ M).bind fun xs M1 => (flatL (fun x M2 => match asgT tg x (wipeW σ own) M2 with
      | some σ1 => (calmO (evt c σ1 M2)).bind fun k M3 => match k with
        | true => (calmO (ev elt σ1 M3)).bind fun w M4 => .ok [w] M4
        | false => .ok [] M3
      | none => .fail) xs M1).bind (mkL fz)
  | .lc2 fz own own1 tg it tg1 it1 elt, σ, M => (evi it σ M).bind fun xs M1 => (flatL (fun x M2 => match asgT tg x (wipeW σ own) M2 with
      | some σ1 => (calmO (evi it1 σ1 M2)).bind fun ys M3 => flatL (fun y M4 => match asgT tg1 y (wipeW σ1 own1) M4 with
        | some σ2 => (calmO (ev elt σ2 M4)).bind fun w M5 => .ok [w] M5
        | none => .fail) ys M3
      | none => .fail) xs M1).bind (mkL fz)
  | .dc fz own tg it c k v, σ, M => (evi it σ M).bind fun xs M1 => (flatL (fun x M2 => match asgT tg x (wipeW σ own) M2 with
      | some σ1 => (calmO (evt c σ1 M2)).bind fun b M3 => match b with
        | true => (calmO (ev k σ1 M3)).bind fun w M4 => (calmO (ev v σ1 M4)).bind fun u M5 => .ok [.kv w u] M5
        | false => .ok [] M3
      | none => .fail) xs M1).bind fun kvs M2 => match putAll [] kvs with
      | some es => mkD fz es M2
      | none => .fail
  | .fstr _, _, _ => .fail
  | .frz a, σ, M => (ev a σ M).bind freezeW
def evs : MArgs → Sg → Store → Out (List W)
  | .nil, _, M => .ok [] M
  | .one e r, σ, M => (ev e σ M).bind fun w M1 => (evs r σ M1).bind fun ws M2 => .ok (w :: ws) M2
  | .star e r, σ, M => (ev e σ M).bind fun w M1 => match seqOf M1 w with
    | some xs => (evs r σ M1).bind fun ws M2 => .ok (xs ++ ws) M2
    | none => .fail
def evp : MPairs → Sg → Store → Out (List W)
  | .nil, _, M => .ok [] M
  | .cons k v r, σ, M => (ev k σ M).bind fun x M1 => (ev v σ M1).bind fun y M2 => (evp r σ M2).bind fun es M3 => .ok (.kv x y :: es) M3
def evo : MOpt → Sg → Store → Out (Option Int)
  | .none, _, M => .ok none M
  | .some e, σ, M => (ev e σ M).bind fun w M1 => match w with
    | .int i => .ok (some i) M1
    | _ => .fail
def evt : MOpt → Sg → Store → Out Bool
  | .none, _, M => .ok true M
  | .some e, σ, M => tstW (ev e σ M)
/-- what a for walks: data alone -/
def evi : MIter → Sg → Store → Out (List W)
  | .plain e, σ, M => (ev e σ M).bind plainIt
  | .enum e, σ, M => (ev e σ M).bind enumIt
  | .zip a b, σ, M => (ev a σ M).bind fun x M1 => (ev b σ M1).bind fun y M2 => zipIt x y M2
  | .range a, σ, M => (ev a σ M).bind rangeO
end

/-! ### statements -/
inductive SOut where
  | next (σ : Sg) (M : Store) | ret (w : W) (M : Store) | exc (c : Nat) (es : List W) (σ : Sg) (M : Store) | fail
def Out.st {α : Type} (o : Out α) (σ : Sg) (f : α → Store → SOut) : SOut := match o with
  | .ok a M => f a M
  | .exc c es M => .exc c es σ M
  | .fail => .fail
def SOut.then_ (o : SOut) (f : Sg → Store → SOut) : SOut := match o with
  | .next σ M => f σ M
  | o => o
def forL (f : W → Sg → Store → SOut) : List W → Sg → Store → SOut
  | [], σ, M => .next σ M
  | x :: r, σ, M => (f x σ M).then_ fun σ1 M1 => forL f r σ1 M1
def whileL (c : Sg → Store → Out Bool) (b : Sg → Store → SOut) : Nat → Sg → Store → SOut
  | 0, _, _ => .fail
  | n + 1, σ, M => (c σ M).st σ fun k M1 => match k with
    | true => (b σ M1).then_ fun σ2 M2 => whileL c b n σ2 M2
    | false => .next σ M1
/-- a field that is there, or the next one in the class's order -/
def mayPut (G : Gm) (c : Nat) (f : Str) (es : List W) : Bool := match G.cls c with
  | some i => memS f i.flds && (match fldE f es with
    | some _ => true
    | none => match i.flds[es.length]? with
      | some g => decide (g = f)
      | none => false)
  | none => false
def setAttrW (G : Gm) (o : W) (f : Str) (v : W) (M : Store) : Option Store := match o with
  | .ref l => match M[l]? with
    | some (.ins c es) => match mayPut G c f es && Nat.blt es.length 900 with
      | true => some (M.set l (.ins c (putFE f v es)))
      | false => none
    | _ => none
  | _ => none
def setItemW (o i v : W) (M : Store) : Option Store := match o with
  | .ref l => match M[l]? with
    | some (.dic es) => match putK es i v with
      | some es' => match lenOk es'.length with
        | true => some (M.set l (.dic es'))
        | false => none
      | none => none
    | some (.lst ws) => match i with
      | .int k => match ixOf k ws.length with
        | some n => some (M.set l (.lst (ws.set n v)))
        | none => none
      | _ => none
    | _ => none
  | _ => none
def stO (o : Option Store) (σ : Sg) : SOut := match o with
  | some M => .next σ M
  | none => .fail
def fieldsW : List Str → List W → List W
  | f :: fs, w :: ws => .kv (.str f) w :: fieldsW fs ws
  | _, _ => []
def BIG : Nat := 1000000000
mutual
def ex : MStmt → Sg → Store → SOut
  | .expr e, σ, M => (ev G C e σ M).st σ fun _ M1 => .next σ M1
  | .set t e, σ, M => (ev G C e σ M).st σ fun w M1 => match asgT t w σ M1 with
    | some σ1 => .next σ1 M1
    | none => .fail
  | .setA o f e, σ, M => (ev G C e σ M).st σ fun w M1 => (ev G C o σ M1).st σ fun x M2 => stO (setAttrW G x f w M2) σ
  | .setI o i e, σ, M => (ev G C e σ M).st σ fun w M1 => (ev G C o σ M1).st σ fun x M2 => (ev G C i σ M2).st σ fun y M3 => stO (setItemW x y w M3) σ
  | .augA o f e, σ, M => (ev G C o σ M).st σ fun x M1 => match insOf M1 x with
    | some (_, es) => match fldE f es with
      | some (.int i) => (ev G C e σ M1).st σ fun y M2 => match y with
        | .int j => stO (setAttrW G x f (.int (i + j)) M2) σ
        | _ => .fail
      | _ => .fail
    | none => .fail
  | .ret e, σ, M => (ev G C e σ M).st σ fun w M1 => .ret w M1
  | .retN, _, M => .ret .non M
  | .ite c a b, σ, M => (tstW (ev G C c σ M)).st σ fun k M1 => match k with
    | true => exs a σ M1
    | false => exs b σ M1
  | .forS t it b, σ, M => (evi G C it σ M).st σ fun xs M1 => forL (fun x σ1 M2 => match asgT t x σ1 M2 with
      | some σ2 => exs b σ2 M2
      | none => .fail) xs σ M1
  | .whileS c b, σ, M => whileL (fun σ1 M1 => tstW (ev G C c σ1 M1)) (fun σ1 M1 => exs b σ1 M1) BIG σ M
  | .raise c es, σ, M => (evs G C es σ M).st σ fun ws M1 => .exc c (fieldsW (G.exf c) ws) σ M1
  | .tryS b hs, σ, M => match exs b σ M with
    | .exc c es σ1 M1 => exh hs c es σ1 M1
    | o => o
  | .pass, σ, M => .next σ M
def exs : MBlk → Sg → Store → SOut
  | .nil, σ, M => .next σ M
  | .cons s r, σ, M => (ex s σ M).then_ fun σ1 M1 => exs r σ1 M1
def exh : MHs → Nat → List W → Sg → Store → SOut
  | .nil, c, es, σ, M => .exc c es σ M
  | .cons cs i b r, c, es, σ, M => match cs.contains c with
    | true => match i with
      | none => exs b σ M
      | some j => (exs b (σ.set j (some (.ins c es))) M).then_ fun σ1 M1 => .next (σ1.set j none) M1
    | false => exh r c es σ M
end
/-- a def's call: its body behind its arguments -/
def runB (n : Nat) (b : MBlk) (ws : List W) (M : Store) : Out W := match exs G C b (ws.map some ++ List.replicate (n - ws.length) none) M with
  | .next _ M1 => .ok .non M1
  | .ret w M1 => .ok w M1
  | .exc c es _ M1 => .exc c es M1
  | .fail => .fail
end
end Mp
set_option Elab.async false
set_option linter.all false
set_option maxRecDepth 100000
namespace Mp
open PySem PySem.Spec PyProof.Rows L2

/-! ### keys -/
mutual
def W.key : W → NestedKey
  | .bl b => .num (bInt b)
  | .int i => .num i
  | .str x => .text x
  | .tup ws => .tup (W.keys ws)
  | _ => .none
def W.keys : List W → List NestedKey
  | [] => []
  | w :: r => w.key :: W.keys r
end

/-- a dict's object -/
abbrev dObj (ds : List DictEntry) (ep : Nat) : Obj := { cls := .type "dict", data := .dict ds.toArray ep }
def dicO (a : Addr) (ds : List DictEntry) : HO := .ext fun h => ∃ ep, h.get? a = some (dObj ds ep)

/-- the name of the lambdas that a law's program makes -/
def lamQ : Str := "send_findings.<locals>.<lambda>"
/-- a table of code objects of that name; such a code object -/
def TQ (H : Hp) (b : Addr) : Bool → Prop
  | true => LamX.TabS H b lamQ
  | false => H b = some (LamX.CodeO b lamQ)
theorem TQ.keep {H H' : Hp} (k : ∀ c o, H c = some o → ((∃ ps, o = .tbl ps) ∨ o = LamX.CodeO c lamQ) → H' c = some o) {b : Addr} : ∀ {q : Bool}, TQ H b q → TQ H' b q
  | true, ⟨ps, h1, h2, h3⟩ => ⟨ps, k _ _ h1 (.inl ⟨ps, rfl⟩), h2, fun pos cv hc => let ⟨c, e1, e2⟩ := h3 pos cv hc; ⟨c, e1, k _ _ e2 (.inr rfl)⟩⟩
  | false, h => k _ _ h (.inr rfl)
theorem TQ.upd {H : Hp} {D : Addr} {o u : HO} (h : H D = some o) (m : Mut (some o)) (nc : ∀ q, o ≠ LamX.CodeO D q) {b : Addr} {q : Bool} (t : TQ H b q) : TQ (upd H D u) b q :=
  t.keep fun c w e z => by
    rw [upd_ne (fun y => by
      subst y
      rw [h] at e
      cases e
      rcases z with ⟨ps, z⟩ | z
      · rw [z] at m; exact m
      · exact nc _ z)]
    exact e
/-- what is fixed through a law: classes by number; which of them have slots, in which order -/
structure Fx where
  w : World
  K : PySem.W.Frag
  cA : Nat → Option Addr
  sl : Nat → Option (List Str)
  /-- tables of code objects; closures that stand (by number), with what they hold -/
  T : List Addr := []
  clo : Addr → Nat → Addr → List V → Prop := fun _ _ _ _ => False

/-- frozen for good, or of the written part -/
def FzL (H : Hp) (a : Addr) (xs : List V) : Prop := ∃ o, H a = some (.frz o (.lst xs))
def FzD (K : PySem.W.Frag) (H : Hp) (a : Addr) (ds : List DictEntry) : Prop :=
  (∃ o, H a = some (.frz o (dicO a ds))) ∨ ∃ ep, K.lookup a = some (dObj ds ep)
theorem FzL.rd {H : Hp} {a : Addr} {xs : List V} (h : FzL H a xs) : Rd H a (.lst xs) := .inr h

/-- no two keys are equal -/
def KDist : List W → Prop
  | [] => True
  | .kv k _ :: r => keyOk 8 k = true ∧ (∀ k' v', .kv k' v' ∈ r → keq k k' = false) ∧ KDist r
  | _ :: _ => False

section
variable (F : Fx) (ρ : List Addr) (H : Hp)
mutual
/-- w stands as the value v -/
def Rp : W → V → Prop
  | .non, v => v = .non
  | .bl b, v => v = .bl b
  | .int i, v => v = .int i
  | .str x, v => v = .str x
  | .tup ws, v => ∃ (a : Addr) (xs : List V), v = .ref a ∧ SqT F.K H a xs ∧ Rps ws xs
  | .lst ws, v => ∃ (a : Addr) (xs : List V), v = .ref a ∧ FzL H a xs ∧ Rps ws xs
  | .dic es, v => ∃ (a : Addr) (ds : List DictEntry), v = .ref a ∧ (a == sysModules) = false ∧ FzD F.K H a ds ∧ es.length ≤ sizeLine ∧ KDist es ∧ RpE es ds
  | .kv _ _, _ => False
  | .ins c es, v => ∃ (a C dx : Addr) (o : Obj), v = .ref a ∧ F.cA c = some C ∧ ((∃ (vs : List (Option V)) (ns : List Str), F.sl c = some ns ∧ H a = some (.frz o (SlX.SlO a C dx vs)) ∧ H dx = some (.xd []) ∧ RpS ns es vs) ∨
    (∃ fs, F.sl c = none ∧ H a = some (.frz o (.ins C dx fs)) ∧ RpF es fs))
  | .ref l, v => ∃ a : Addr, ρ[l]? = some a ∧ v = .ref a
  | .clo _ _, _ => False
def Rps : List W → List V → Prop
  | [], vs => vs = []
  | w :: ws, vs => ∃ (v : V) (r : List V), vs = v :: r ∧ Rp w v ∧ Rps ws r
/-- a dict's entries -/
def RpE : List W → List DictEntry → Prop
  | [], ds => ds = []
  | .kv k v :: es, ds => ∃ (d : DictEntry) (r : List DictEntry), ds = d :: r ∧ d.hash = k.key.hash F.w ∧ (∃ x, RelV x d.key ∧ Rp k x) ∧ (∃ y, RelV y d.val ∧ Rp v y) ∧ RpE es r
  | _ :: _, _ => False
/-- slots -/
def RpS : List Str → List W → List (Option V) → Prop
  | _, [], vs => ∀ (i : Nat) (x : V), vs[i]? ≠ some (some x)
  | ns, .kv (.str f) w :: es, vs => ∃ (i : Nat) (v : V), ns[i]? = some f ∧ vs[i]? = some (some v) ∧ Rp w v ∧ RpS ns es (vs.set i none)
  | _, _ :: _, _ => False
/-- an instance's attributes -/
def RpF : List W → List (Str × V) → Prop
  | [], fs => fs = []
  | .kv (.str f) w :: es, fs => ∃ (v : V) (r : List (Str × V)), fs = (f, v) :: r ∧ Rp w v ∧ RpF es r
  | _ :: _, _ => False
end
/-- what a name holds: data, or a closure -/
def RpA (w : W) (v : V) : Prop := match w with
  | .clo n ws => ∃ (f c : Addr) (vs : List V), v = .ref f ∧ F.clo f n c vs ∧ TQ H c false ∧ Rps F ρ H ws vs
  | w => Rp F ρ H w v
end

structure ExtB (ρ : List Addr) (H : Hp) (ρ' : List Addr) (H' : Hp) : Prop where
  pre : ∃ t, ρ' = ρ ++ t
  tup : ∀ b xs, H b = some (.tup xs) → H' b = some (.tup xs)
  frz : ∀ b o u, H b = some (.frz o u) → H' b = some (.frz o u)
  xd : ∀ b fs, H b = some (.xd fs) → H' b = some (.xd fs)
  tb : ∀ b q, TQ H b q → TQ H' b q
  tr : ∀ b, H b ≠ none → H' b ≠ none
structure Ext (ρ : List Addr) (H : Hp) (ρ' : List Addr) (H' : Hp) : Prop extends ExtB ρ H ρ' H' where
  nw : ∀ b, b ∈ ρ' → b ∉ ρ → H b = none
  fr : ∀ b o, b ∉ ρ' → Mut (some o) → H b = some o → H' b = some o
section
variable {F : Fx} {ρ ρ' ρ2 : List Addr} {H H' H2 : Hp}
theorem Ext.refl : Ext ρ H ρ H where
  pre := ⟨[], by simp⟩
  nw := fun _ h n => absurd h n
  tup := fun _ _ h => h
  frz := fun _ _ _ h => h
  xd := fun _ _ h => h
  tb := fun _ _ h => h
  tr := fun _ h => h
  fr := fun _ _ _ _ h => h
theorem Ext.trans (a : Ext ρ H ρ' H') (b : Ext ρ' H' ρ2 H2) : Ext ρ H ρ2 H2 := by
  obtain ⟨t, e⟩ := a.pre
  obtain ⟨u, e'⟩ := b.pre
  exact {
    pre := ⟨t ++ u, by rw [e', e, List.append_assoc]⟩
    nw := fun c h n => (by
      by_cases q : c ∈ ρ'
      · exact a.nw c q n
      · have z := b.nw c h q
        cases y : H c with
        | none => rfl
        | some o => exact absurd z (a.tr c (by rw [y]; exact fun z => nomatch z)))
    tup := fun c xs h => b.tup _ _ (a.tup _ _ h)
    frz := fun c o u h => b.frz _ _ _ (a.frz _ _ _ h)
    xd := fun c fs h => b.xd _ _ (a.xd _ _ h)
    tb := fun c q h => b.tb _ _ (a.tb _ _ h)
    tr := fun c h => b.tr _ (a.tr _ h)
    fr := fun c o n m h => b.fr _ _ n m (a.fr _ _ (fun z => n (by rw [e']; exact List.mem_append_left _ z)) m h) }
theorem ExtB.trans (a : ExtB ρ H ρ' H') (b : ExtB ρ' H' ρ2 H2) : ExtB ρ H ρ2 H2 where
  pre := let ⟨t, e⟩ := a.pre; let ⟨u, e'⟩ := b.pre; ⟨t ++ u, by rw [e', e, List.append_assoc]⟩
  tup := fun c xs h => b.tup _ _ (a.tup _ _ h)
  frz := fun c o u h => b.frz _ _ _ (a.frz _ _ _ h)
  xd := fun c fs h => b.xd _ _ (a.xd _ _ h)
  tb := fun c q h => b.tb _ _ (a.tb _ _ h)
  tr := fun c h => b.tr _ (a.tr _ h)
theorem ExtB.get (a : ExtB ρ H ρ' H') {l : Nat} {x : Addr} (h : ρ[l]? = some x) : ρ'[l]? = some x := by
  obtain ⟨t, e⟩ := a.pre
  rw [e]
  have hl : l < ρ.length := (List.getElem?_eq_some_iff.mp h).1
  rw [List.getElem?_append_left hl]
  exact h
theorem ExtB.sqT (a : ExtB ρ H ρ' H') {K : PySem.W.Frag} {p : Addr} {xs : List V} (h : SqT K H p xs) : SqT K H' p xs := by
  rcases h with (h | ⟨o, h⟩) | h
  · exact .inl (.inl (a.tup _ _ h))
  · exact .inl (.inr ⟨o, a.frz _ _ _ h⟩)
  · exact .inr h
theorem ExtB.fzL (a : ExtB ρ H ρ' H') {p : Addr} {xs : List V} (h : FzL H p xs) : FzL H' p xs := let ⟨o, h⟩ := h; ⟨o, a.frz _ _ _ h⟩
theorem ExtB.fzD (a : ExtB ρ H ρ' H') {K : PySem.W.Frag} {p : Addr} {ds : List DictEntry} (h : FzD K H p ds) : FzD K H' p ds := by
  rcases h with ⟨o, h⟩ | h
  · exact .inl ⟨o, a.frz _ _ _ h⟩
  · exact .inr h
mutual
theorem Rp.monoB (a : ExtB ρ H ρ' H') : ∀ (w : W) (v : V), Rp F ρ H w v → Rp F ρ' H' w v
  | .non, _, h => h
  | .bl _, _, h => h
  | .int _, _, h => h
  | .str _, _, h => h
  | .tup ws, v, h => by
    obtain ⟨p, xs, e, h1, h2⟩ := h
    exact ⟨p, xs, e, a.sqT h1, Rps.monoB a ws xs h2⟩
  | .lst ws, v, h => by
    obtain ⟨p, xs, e, h1, h2⟩ := h
    exact ⟨p, xs, e, a.fzL h1, Rps.monoB a ws xs h2⟩
  | .dic es, v, h => by
    obtain ⟨p, ds, e, h0, h1, h2, h3, h4⟩ := h
    exact ⟨p, ds, e, h0, a.fzD h1, h2, h3, RpE.monoB a es ds h4⟩
  | .kv _ _, _, h => h
  | .ins c es, v, h => by
    obtain ⟨p, C, dx, o, e, h1, h⟩ := h
    rcases h with ⟨vs, ns, h2, h3, h4, h5⟩ | ⟨fs, h2, h3, h4⟩
    · exact ⟨p, C, dx, o, e, h1, .inl ⟨vs, ns, h2, a.frz _ _ _ h3, a.xd _ _ h4, RpS.monoB a ns es vs h5⟩⟩
    · exact ⟨p, C, dx, o, e, h1, .inr ⟨fs, h2, a.frz _ _ _ h3, RpF.monoB a es fs h4⟩⟩
  | .ref l, v, h => by
    obtain ⟨p, e, h⟩ := h
    exact ⟨p, a.get e, h⟩
  | .clo _ _, _, h => h
theorem Rps.monoB (a : ExtB ρ H ρ' H') : ∀ (ws : List W) (vs : List V), Rps F ρ H ws vs → Rps F ρ' H' ws vs
  | [], _, h => h
  | w :: ws, vs, h => by
    obtain ⟨v, r, e, h1, h2⟩ := h
    exact ⟨v, r, e, Rp.monoB a w v h1, Rps.monoB a ws r h2⟩
theorem RpE.monoB (a : ExtB ρ H ρ' H') : ∀ (es : List W) (ds : List DictEntry), RpE F ρ H es ds → RpE F ρ' H' es ds
  | [], _, h => h
  | .kv k v :: es, ds, h => by
    obtain ⟨d, r, e, h0, ⟨x, hx, h1⟩, ⟨y, hy, h2⟩, h3⟩ := h
    exact ⟨d, r, e, h0, ⟨x, hx, Rp.monoB a k x h1⟩, ⟨y, hy, Rp.monoB a v y h2⟩, RpE.monoB a es r h3⟩
  | .non :: _, _, h => h
  | .bl _ :: _, _, h => h
  | .int _ :: _, _, h => h
  | .str _ :: _, _, h => h
  | .tup _ :: _, _, h => h
  | .lst _ :: _, _, h => h
  | .dic _ :: _, _, h => h
  | .ins _ _ :: _, _, h => h
  | .ref _ :: _, _, h => h
  | .clo _ _ :: _, _, h => h
theorem RpS.monoB (a : ExtB ρ H ρ' H') : ∀ (ns : List Str) (es : List W) (vs : List (Option V)), RpS F ρ H ns es vs → RpS F ρ' H' ns es vs
  | _, [], _, h => h
  | ns, .kv (.str f) w :: es, vs, h => by
    obtain ⟨i, v, e1, e2, h1, h2⟩ := h
    exact ⟨i, v, e1, e2, Rp.monoB a w v h1, RpS.monoB a ns es (vs.set i none) h2⟩
  | _, .kv .non _ :: _, _, h => h
  | _, .kv (.bl _) _ :: _, _, h => h
  | _, .kv (.int _) _ :: _, _, h => h
  | _, .kv (.tup _) _ :: _, _, h => h
  | _, .kv (.lst _) _ :: _, _, h => h
  | _, .kv (.dic _) _ :: _, _, h => h
  | _, .kv (.kv _ _) _ :: _, _, h => h
  | _, .kv (.ins _ _) _ :: _, _, h => h
  | _, .kv (.ref _) _ :: _, _, h => h
  | _, .kv (.clo _ _) _ :: _, _, h => h
  | _, .non :: _, _, h => h
  | _, .bl _ :: _, _, h => h
  | _, .int _ :: _, _, h => h
  | _, .str _ :: _, _, h => h
  | _, .tup _ :: _, _, h => h
  | _, .lst _ :: _, _, h => h
  | _, .dic _ :: _, _, h => h
  | _, .ins _ _ :: _, _, h => h
  | _, .ref _ :: _, _, h => h
  | _, .clo _ _ :: _, _, h => h
theorem RpF.monoB (a : ExtB ρ H ρ' H') : ∀ (es : List W) (fs : List (Str × V)), RpF F ρ H es fs → RpF F ρ' H' es fs
  | [], _, h => h
  | .kv (.str f) w :: es, fs, h => by
    obtain ⟨v, r, e, h1, h2⟩ := h
    exact ⟨v, r, e, Rp.monoB a w v h1, RpF.monoB a es r h2⟩
  | .kv .non _ :: _, _, h => h
  | .kv (.bl _) _ :: _, _, h => h
  | .kv (.int _) _ :: _, _, h => h
  | .kv (.tup _) _ :: _, _, h => h
  | .kv (.lst _) _ :: _, _, h => h
  | .kv (.dic _) _ :: _, _, h => h
  | .kv (.kv _ _) _ :: _, _, h => h
  | .kv (.ins _ _) _ :: _, _, h => h
  | .kv (.ref _) _ :: _, _, h => h
  | .kv (.clo _ _) _ :: _, _, h => h
  | .non :: _, _, h => h
  | .bl _ :: _, _, h => h
  | .int _ :: _, _, h => h
  | .str _ :: _, _, h => h
  | .tup _ :: _, _, h => h
  | .lst _ :: _, _, h => h
  | .dic _ :: _, _, h => h
  | .ins _ _ :: _, _, h => h
  | .ref _ :: _, _, h => h
  | .clo _ _ :: _, _, h => h
end
theorem RpA.monoB (a : ExtB ρ H ρ' H') (w : W) (v : V) (h : RpA F ρ H w v) : RpA F ρ' H' w v := by
  cases w with
  | clo n ws =>
    obtain ⟨f, c, vs, h1, h2, hc, h3⟩ := h
    exact ⟨f, c, vs, h1, h2, a.tb c false hc, Rps.monoB a ws vs h3⟩
  | _ => exact Rp.monoB a _ v h
theorem Rp.toA {w : W} {v : V} (h : Rp F ρ H w v) : RpA F ρ H w v := by
  cases w with
  | clo n ws => exact (show False from h).elim
  | _ => exact h
theorem RpA.toR {w : W} {v : V} (h : RpA F ρ H w v) (n : ∀ f ws, w ≠ .clo f ws) : Rp F ρ H w v := by
  cases w with
  | clo f ws => exact absurd rfl (n f ws)
  | _ => exact h

theorem Rp.mono (a : Ext ρ H ρ' H') (w : W) (v : V) (h : Rp F ρ H w v) : Rp F ρ' H' w v := Rp.monoB a.toExtB w v h
theorem Rps.mono (a : Ext ρ H ρ' H') (w : List W) (v : List V) (h : Rps F ρ H w v) : Rps F ρ' H' w v := Rps.monoB a.toExtB w v h
theorem RpE.mono (a : Ext ρ H ρ' H') (w : List W) (v : List DictEntry) (h : RpE F ρ H w v) : RpE F ρ' H' w v := RpE.monoB a.toExtB w v h
theorem RpS.mono (a : Ext ρ H ρ' H') (ns : List Str) (w : List W) (v : List (Option V)) (h : RpS F ρ H ns w v) : RpS F ρ' H' ns w v := RpS.monoB a.toExtB ns w v h

/-! ### rows of values -/
theorem Rps.length : ∀ {ws : List W} {vs : List V}, Rps F ρ H ws vs → vs.length = ws.length
  | [], _, h => by cases (show _ = [] from h); rfl
  | _ :: ws, _, h => by
    obtain ⟨v, r, rfl, _, h2⟩ := h
    simp [Rps.length h2]
theorem Rps.append : ∀ {ws us : List W} {vs xs : List V}, Rps F ρ H ws vs → Rps F ρ H us xs → Rps F ρ H (ws ++ us) (vs ++ xs)
  | [], _, _, _, h, h' => by cases (show _ = [] from h); exact h'
  | _ :: ws, _, _, _, h, h' => by
    obtain ⟨v, r, rfl, h1, h2⟩ := h
    exact ⟨v, r ++ _, rfl, h1, Rps.append h2 h'⟩
theorem Rps.get : ∀ {ws : List W} {vs : List V} {i : Nat} {w : W}, Rps F ρ H ws vs → ws[i]? = some w → ∃ v, vs[i]? = some v ∧ Rp F ρ H w v
  | [], _, _, _, _, e => by simp at e
  | _ :: ws, _, 0, _, h, e => by
    obtain ⟨v, r, rfl, h1, _⟩ := h
    simp at e; subst e
    exact ⟨v, rfl, h1⟩
  | _ :: ws, _, i + 1, _, h, e => by
    obtain ⟨v, r, rfl, _, h2⟩ := h
    obtain ⟨x, e1, e2⟩ := Rps.get (i := i) h2 (by simpa using e)
    exact ⟨x, by simpa using e1, e2⟩
theorem Rps.set : ∀ {ws : List W} {vs : List V} (i : Nat) {w : W} {v : V}, Rps F ρ H ws vs → Rp F ρ H w v → Rps F ρ H (ws.set i w) (vs.set i v)
  | [], _, _, _, _, h, _ => by cases (show _ = [] from h); exact rfl
  | _ :: ws, _, 0, _, _, h, r => by
    obtain ⟨v, t, rfl, _, h2⟩ := h
    exact ⟨_, t, rfl, r, h2⟩
  | _ :: ws, _, i + 1, _, _, h, r => by
    obtain ⟨v, t, rfl, h1, h2⟩ := h
    exact ⟨v, _, rfl, h1, Rps.set i h2 r⟩
theorem Rps.take : ∀ {ws : List W} {vs : List V} (n : Nat), Rps F ρ H ws vs → Rps F ρ H (ws.take n) (vs.take n)
  | _, _, 0, _ => by simp; exact rfl
  | [], _, _ + 1, h => by cases (show _ = [] from h); exact rfl
  | _ :: ws, _, n + 1, h => by
    obtain ⟨v, r, rfl, h1, h2⟩ := h
    exact ⟨v, _, rfl, h1, Rps.take n h2⟩
theorem Rps.drop : ∀ {ws : List W} {vs : List V} (n : Nat), Rps F ρ H ws vs → Rps F ρ H (ws.drop n) (vs.drop n)
  | _, _, 0, h => h
  | [], _, _ + 1, h => by cases (show _ = [] from h); exact rfl
  | _ :: ws, _, n + 1, h => by
    obtain ⟨v, r, rfl, h1, h2⟩ := h
    exact Rps.drop n h2
theorem Rps.one {w : W} {v : V} (h : Rp F ρ H w v) : Rps F ρ H [w] [v] := ⟨v, [], rfl, h, rfl⟩
theorem Rps.reverse : ∀ {ws : List W} {vs : List V}, Rps F ρ H ws vs → Rps F ρ H ws.reverse vs.reverse
  | [], _, h => by cases (show _ = [] from h); exact rfl
  | w :: ws, _, h => by
    obtain ⟨v, r, rfl, h1, h2⟩ := h
    rw [List.reverse_cons, List.reverse_cons]
    exact Rps.append (Rps.reverse h2) (Rps.one h1)
theorem Rps.cons_iff {w : W} {ws : List W} {vs : List V} (h : Rps F ρ H (w :: ws) vs) : ∃ v r, vs = v :: r ∧ Rp F ρ H w v ∧ Rps F ρ H ws r := h
theorem Rps.split : ∀ {ws us : List W} {vs : List V}, Rps F ρ H (ws ++ us) vs → ∃ xs ys, vs = xs ++ ys ∧ Rps F ρ H ws xs ∧ Rps F ρ H us ys
  | [], us, vs, h => ⟨[], vs, rfl, rfl, h⟩
  | w :: ws, us, vs, h => by
    obtain ⟨v, r, rfl, h1, h2⟩ := h
    obtain ⟨xs, ys, rfl, h3, h4⟩ := Rps.split h2
    exact ⟨v :: xs, ys, rfl, ⟨v, xs, rfl, h1, h3⟩, h4⟩

/-! ### the store -/
/-- an object of the store at an address -/
def ObR (F : Fx) (ρ : List Addr) (H : Hp) (a : Addr) : MObj → Prop
  | .lst ws => ∃ xs, H a = some (.lst xs) ∧ Rps F ρ H ws xs
  | .dic es => ∃ ds, (a == sysModules) = false ∧ H a = some (dicO a ds) ∧ es.length ≤ sizeLine ∧ KDist es ∧ RpE F ρ H es ds
  | .ins c es => ∃ C dx, F.cA c = some C ∧ match F.sl c with
    | none => ∃ fs, H a = some (.ins C dx fs) ∧ RpF F ρ H es fs
    | some ns => ∃ vs, SlX.Slt H a C dx vs ∧ RpS F ρ H ns es vs ∧ dx ≠ a
  | .frz w => Rp F ρ H w (.ref a) ∧ ∃ o u, H a = some (.frz o u)
structure RelS (F : Fx) (ρ : List Addr) (H : Hp) (M : Store) : Prop where
  len : ρ.length = M.length
  nd : ρ.Nodup
  ob : ∀ (l : Nat) (o : MObj) (a : Addr), M[l]? = some o → ρ[l]? = some a → ObR F ρ H a o
  tab : ∀ p ∈ F.T, TQ H p true
structure RelG (F : Fx) (ρ : List Addr) (H : Hp) (σ : Sg) (τ : L2.St) : Prop where
  len : σ.length = τ.length
  at_ : ∀ (i : Nat) (w : W), σ[i]? = some (some w) → ∃ v, τ[i]? = some (some v) ∧ RpA F ρ H w v
theorem RelG.mono {σ : Sg} {τ : L2.St} (g : RelG F ρ H σ τ) (a : Ext ρ H ρ' H') : RelG F ρ' H' σ τ :=
  ⟨g.len, fun i w e => let ⟨v, e1, r⟩ := g.at_ i w e; ⟨v, e1, RpA.monoB a.toExtB w v r⟩⟩
theorem RelG.setA {σ : Sg} {τ : L2.St} (g : RelG F ρ H σ τ) {i : Nat} {w : W} {v : V} (r : RpA F ρ H w v) : RelG F ρ H (σ.set i (some w)) (τ.set i (some v)) := by
  refine ⟨by simp [g.len], fun j u e => ?_⟩
  by_cases h : i = j
  · subst h
    have hl : i < σ.length := by
      have := (List.getElem?_eq_some_iff.mp e).1
      simpa using this
    rw [List.getElem?_set_self hl] at e
    cases e
    exact ⟨v, List.getElem?_set_self (by rw [← g.len]; exact hl), r⟩
  · rw [List.getElem?_set_ne h] at e
    obtain ⟨x, e1, r1⟩ := g.at_ j u e
    exact ⟨x, by rw [List.getElem?_set_ne h]; exact e1, r1⟩
theorem RelG.set {σ : Sg} {τ : L2.St} (g : RelG F ρ H σ τ) {i : Nat} {w : W} {v : V} (r : Rp F ρ H w v) : RelG F ρ H (σ.set i (some w)) (τ.set i (some v)) := g.setA r.toA
end

/-! ### the store grows, is written -/
section
variable {F : Fx} {ρ : List Addr} {H H' : Hp} {M : Store}
theorem RelS.lt (r : RelS F ρ H M) {l : Nat} {o : MObj} (h : M[l]? = some o) : ∃ a, ρ[l]? = some a ∧ ObR F ρ H a o := by
  have hl : l < ρ.length := by rw [r.len]; exact (List.getElem?_eq_some_iff.mp h).1
  exact ⟨ρ[l], List.getElem?_eq_getElem hl, r.ob l o _ h (List.getElem?_eq_getElem hl)⟩
theorem ObR.there {a : Addr} {o : MObj} (h : ObR F ρ H a o) : H a ≠ none := by
  cases o with
  | lst ws => obtain ⟨xs, e, _⟩ := h; rw [e]; exact fun z => nomatch z
  | dic es => obtain ⟨ds, _, e, _⟩ := h; rw [e]; exact fun z => nomatch z
  | ins c es =>
    obtain ⟨C, dx, _, h⟩ := h
    cases q : F.sl c with
    | none => rw [q] at h; obtain ⟨fs, e, _⟩ := h; rw [e]; exact fun z => nomatch z
    | some ns =>
      rw [q] at h
      obtain ⟨vs, s, _⟩ := h
      rcases s with ⟨e, _⟩ | ⟨e, _⟩ <;> (rw [e]; exact fun z => nomatch z)
  | frz w => obtain ⟨_, o, u, e⟩ := h; rw [e]; exact fun z => nomatch z
theorem RelS.there (r : RelS F ρ H M) {a : Addr} (h : a ∈ ρ) : H a ≠ none := by
  obtain ⟨l, hl, e⟩ := List.getElem_of_mem h
  have hM : l < M.length := by rw [← r.len]; exact hl
  exact ObR.there (r.ob l M[l] a (List.getElem?_eq_getElem hM) (by rw [← e]; exact List.getElem?_eq_getElem hl))
theorem RelS.fresh (r : RelS F ρ H M) {p : Addr} (h : H p = none) : p ∉ ρ := fun z => r.there z h
theorem Ext.upd_fresh' {p : Addr} {o : HO} (h : H p = none) (t : List Addr) (ht : ∀ b ∈ t, b = p) : Ext ρ H (ρ ++ t) (upd H p o) where
  pre := ⟨t, rfl⟩
  nw := fun b hb n => by
    rcases List.mem_append.mp hb with z | z
    · exact absurd z n
    · rw [ht b z]; exact h
  tup := fun b xs e => by rw [upd_ne (ne_of_none e h)]; exact e
  frz := fun b o u e => by rw [upd_ne (ne_of_none e h)]; exact e
  xd := fun b fs e => by rw [upd_ne (ne_of_none e h)]; exact e
  tb := fun b q t => t.keep fun c u e _ => by rw [upd_ne (ne_of_none e h)]; exact e
  tr := fun b e => by
    by_cases q : b = p
    · rw [q, upd_same]; exact fun z => nomatch z
    · rw [upd_ne q]; exact e
  fr := fun b o _ _ e => by rw [upd_ne (ne_of_none e h)]; exact e
theorem Ext.upd_fresh {p : Addr} {o : HO} (h : H p = none) (t : List Addr) (ht : ∀ b ∈ t, b = p := by simp) : Ext ρ H (ρ ++ t) (upd H p o) := Ext.upd_fresh' h t ht
theorem Ext.upd0 {p : Addr} {o : HO} (h : H p = none) : Ext ρ H ρ (upd H p o) := by
  have := Ext.upd_fresh' (ρ := ρ) (o := o) h [] (fun b hb => by cases hb)
  simpa using this
/-- what an object's place in the store leans on -/
theorem ObR.keepB {ρ' : List Addr} {a : Addr} {o : MObj} (x : ExtB ρ H ρ' H') (e : ∀ u, H a = some u → H' a = some u) (h : ObR F ρ H a o) : ObR F ρ' H' a o := by
  cases o with
  | lst ws => obtain ⟨xs, h1, h2⟩ := h; exact ⟨xs, e _ h1, Rps.monoB x ws xs h2⟩
  | dic es => obtain ⟨ds, h0, h1, h2, h3, h4⟩ := h; exact ⟨ds, h0, e _ h1, h2, h3, RpE.monoB x es ds h4⟩
  | ins c es =>
    obtain ⟨C, dx, h0, h⟩ := h
    refine ⟨C, dx, h0, ?_⟩
    cases q : F.sl c with
    | none =>
      rw [q] at h
      obtain ⟨fs, h1, h2⟩ := h
      exact ⟨fs, e _ h1, RpF.monoB x es fs h2⟩
    | some ns =>
      rw [q] at h
      obtain ⟨vs, h1, h2, h3⟩ := h
      refine ⟨vs, ?_, RpS.monoB x ns es vs h2, h3⟩
      rcases h1 with ⟨h1, h4⟩ | ⟨h1, h4⟩
      · exact .inl ⟨e _ h1, h4⟩
      · exact .inr ⟨e _ h1, x.xd _ _ h4⟩
  | frz w => obtain ⟨h1, o, u, h2⟩ := h; exact ⟨Rp.monoB x w _ h1, o, u, x.frz _ _ _ h2⟩
theorem ObR.keep {ρ' : List Addr} {a : Addr} {o : MObj} (x : Ext ρ H ρ' H') (e : ∀ u, H a = some u → H' a = some u) (h : ObR F ρ H a o) : ObR F ρ' H' a o := h.keepB x.toExtB e
/-- the heap grows by what the store does not see -/
theorem RelS.keepB (r : RelS F ρ H M) (x : ExtB ρ H ρ H') (e : ∀ a u, a ∈ ρ → H a = some u → H' a = some u) : RelS F ρ H' M :=
  ⟨r.len, r.nd, fun l o a h1 h2 => (r.ob l o a h1 h2).keepB x fun u q => e a u (List.mem_of_getElem? h2) q, fun p hp => x.tb _ _ (r.tab p hp)⟩
theorem RelS.keep (r : RelS F ρ H M) (x : Ext ρ H ρ H') (e : ∀ a u, a ∈ ρ → H a = some u → H' a = some u) : RelS F ρ H' M := r.keepB x.toExtB e
theorem RelS.upd0 (r : RelS F ρ H M) {p : Addr} {o : HO} (h : H p = none) : RelS F ρ (upd H p o) M :=
  r.keep (Ext.upd0 h) fun a u ha q => by rw [upd_ne (fun z => by rw [z, h] at q; cases q)]; exact q
/-- a new object -/
theorem RelS.push (r : RelS F ρ H M) {p : Addr} {u : HO} {o : MObj} (h : H p = none) (ob : ObR F (ρ ++ [p]) (upd H p u) p o) : RelS F (ρ ++ [p]) (upd H p u) (M ++ [o]) where
  len := by simp [r.len]
  nd := by
    rw [List.nodup_append]
    refine ⟨r.nd, by simp, fun a ha b hb z => ?_⟩
    have : b = p := by simpa using hb
    subst this z
    exact r.fresh h ha
  ob := fun l o' a h1 h2 => by
    by_cases hl : l < M.length
    · rw [List.getElem?_append_left hl] at h1
      rw [List.getElem?_append_left (by rw [r.len]; exact hl)] at h2
      exact (r.ob l o' a h1 h2).keep (Ext.upd_fresh h [p]) fun u' q => by rw [upd_ne (fun z => by rw [z, h] at q; cases q)]; exact q
    · have e : l = M.length := by
        have := (List.getElem?_eq_some_iff.mp h1).1
        simp at this; omega
      subst e
      simp at h1
      rw [← r.len] at h2
      simp at h2
      subst h1 h2
      exact ob
  tab := fun q hq => (Ext.upd_fresh (ρ := ρ) (o := u) h [p]).tb _ _ (r.tab q hq)
/-- a dict is no code object -/
theorem code_at (c : Addr) (q : Str) : ∃ (h : Heap) (oc : Obj) (vs : Array Value) (t : Tok), h.get? c = some oc ∧ oc.data = .fields vs ∧ vs[1]? = some (.str q t) := by
  refine ⟨{ objs := Array.replicate (c + 1) { cls := .none, data := .fields #[.none, .str q 0] } }, { cls := .none, data := .fields #[.none, .str q 0] }, #[.none, .str q 0], 0, ?_, rfl, rfl⟩
  unfold Heap.get?
  have e : (Array.replicate (c + 1) ({ cls := .none, data := .fields #[.none, .str q 0] } : Obj))[c]? = some { cls := .none, data := .fields #[.none, .str q 0] } := by
    rw [Array.getElem?_replicate]
    simp
  simp only [e]
theorem code_dic {a : Addr} {q : Str} {ds : List DictEntry} : dicO a ds ≠ LamX.CodeO a q := fun z => by
  unfold dicO LamX.CodeO at z
  obtain ⟨h, oc, vs, t, e1, e2, e3⟩ := code_at a q
  have z2 := HO.ext.inj z
  have : ∃ ep, h.get? a = some (dObj ds ep) := by
    rw [show (∃ ep, h.get? a = some (dObj ds ep)) = _ from congrFun z2 h]
    exact ⟨oc, vs, t, e1, e2, e3⟩
  obtain ⟨ep, e4⟩ := this
  rw [e1] at e4
  cases e4
  cases e2
theorem Ext.write {a : Addr} {o u : HO} (ha : a ∈ ρ) (h : H a = some o) (m : Mut (some o)) (nc : ∀ q, o ≠ LamX.CodeO a q) : Ext ρ H ρ (upd H a u) where
  pre := ⟨[], by simp⟩
  nw := fun b hb n => absurd hb n
  tup := fun b xs e => by rw [upd_ne (fun z => by rw [z, h] at e; cases e; exact m)]; exact e
  frz := fun b o u e => by rw [upd_ne (fun z => by rw [z, h] at e; cases e; exact m)]; exact e
  xd := fun b fs e => by rw [upd_ne (fun z => by rw [z, h] at e; cases e; exact m)]; exact e
  tb := fun b q t => t.upd h m nc
  tr := fun b e => by
    by_cases q : b = a
    · rw [q, upd_same]; exact fun z => nomatch z
    · rw [upd_ne q]; exact e
  fr := fun b o n _ e => by rw [upd_ne (fun z => n (by rw [z]; exact ha))]; exact e
/-- an object is another -/
theorem RelS.put (r : RelS F ρ H M) {l : Nat} {a : Addr} {o u : HO} {ob : MObj} (hl : ρ[l]? = some a) (h : H a = some o) (m : Mut (some o)) (nc : ∀ q, o ≠ LamX.CodeO a q) (q : ObR F ρ (upd H a u) a ob) : RelS F ρ (upd H a u) (M.set l ob) where
  tab := fun q hq => (Ext.write (u := u) (List.mem_of_getElem? hl) h m nc).tb _ _ (r.tab q hq)
  len := by simp [r.len]
  nd := r.nd
  ob := fun k o' b h1 h2 => by
    by_cases e : l = k
    · subst e
      have hM : l < M.length := by rw [← r.len]; exact (List.getElem?_eq_some_iff.mp hl).1
      rw [List.getElem?_set_self hM] at h1
      cases h1
      rw [hl] at h2; cases h2
      exact q
    · rw [List.getElem?_set_ne e] at h1
      have hb : b ≠ a := fun z => by
        subst z
        exact e ((List.getElem?_inj (List.getElem?_eq_some_iff.mp hl).1 r.nd).mp (hl.trans h2.symm))
      exact (r.ob k o' b h1 h2).keep (Ext.write (List.mem_of_getElem? hl) h m nc) fun u' q' => by rw [upd_ne hb]; exact q'
end

/-! ### readings by functions on data -/
/-- an exception's own fields -/
def ExcR (F : Fx) (ρ : List Addr) (H : Hp) (es : List W) (od : Option Addr) : Prop := match es with
  | [] => od = none
  | _ => ∃ d fs, od = some d ∧ H d = some (.xd fs) ∧ RpF F ρ H es fs
def oK {α β : Type} (F : Fx) (R : List Addr → Hp → α → β → Prop) (E : XK) (Q : β → Hp → Prop) (ρ : List Addr) (H : Hp) : Out α → Prop
  | .ok a M => ∀ ρ' b H', Ext ρ H ρ' H' → RelS F ρ' H' M → R ρ' H' a b → Q b H'
  | .exc c es M => ∀ ρ' H' C od, Ext ρ H ρ' H' → RelS F ρ' H' M → F.cA c = some C → ExcR F ρ' H' es od → E (.ref C) od H'
  | .fail => False
section
variable {F : Fx} {ρ ρ' : List Addr} {H H' : Hp} {M : Store} {α β γ δ : Type} {R : List Addr → Hp → α → β → Prop} {R2 : List Addr → Hp → γ → δ → Prop} {E : XK} {Q : β → Hp → Prop}
theorem oK.mono {o : Out α} (h : oK F R E Q ρ H o) (x : Ext ρ H ρ' H') : oK F R E Q ρ' H' o := by
  cases o with
  | ok a M => exact fun ρ2 b H2 x2 s r => h ρ2 b H2 (x.trans x2) s r
  | exc c es M => exact fun ρ2 H2 C od x2 s e r => h ρ2 H2 C od (x.trans x2) s e r
  | fail => exact h
/-- first one, then what comes of it -/
def oThen {α β γ δ : Type} (F : Fx) (R : List Addr → Hp → α → β → Prop) (R2 : List Addr → Hp → γ → δ → Prop) (E : XK) (Q : δ → Hp → Prop) (ρ : List Addr) (H : Hp) (k : α → Store → Out γ) : β → Hp → Prop := fun b H1 =>
  ∃ ρ1 a M1, Ext ρ H ρ1 H1 ∧ RelS F ρ1 H1 M1 ∧ R ρ1 H1 a b ∧ oK F R2 E Q ρ1 H1 (k a M1)
theorem oK.bind {o : Out α} {k : α → Store → Out γ} {Q : δ → Hp → Prop} (h : oK F R2 E Q ρ H (o.bind k)) : oK F R E (oThen F R R2 E Q ρ H k) ρ H o := by
  cases o with
  | ok a M => exact fun ρ1 b H1 x s r => ⟨ρ1, a, M, x, s, r, oK.mono (show oK F R2 E Q ρ H (k a M) from h) x⟩
  | exc c es M => exact h
  | fail => exact h
end
end Mp
set_option Elab.async false
set_option linter.all false
set_option maxRecDepth 100000
namespace Mp
open PySem PySem.Spec PyProof.Rows L2

abbrev FE := Sg → Store → Out W
abbrev RB : List Addr → Hp → Bool → Bool → Prop := fun _ _ a b => a = b
def tE (F : Fx) (Wx : WX) (f : FE) : TE := fun τ H Q => ∃ ρ σ M, RelS F ρ H M ∧ RelG F ρ H σ τ ∧ oK F (Rp F) (fun c d H' => Wx c d τ H') Q ρ H (f σ M)
def tQ (F : Fx) (Wx : WX) (f : Sg → Store → Out Bool) : TT := fun τ H Q => ∃ ρ σ M, RelS F ρ H M ∧ RelG F ρ H σ τ ∧ oK F RB (fun c d H' => Wx c d τ H') Q ρ H (f σ M)
def tL (F : Fx) (Wx : WX) (f : Sg → Store → Out (List W)) : TA := fun τ H Q => ∃ ρ σ M, RelS F ρ H M ∧ RelG F ρ H σ τ ∧ oK F (Rps F) (fun c d H' => Wx c d τ H') Q ρ H (f σ M)
theorem PE.weak {X : Cx} {e : Expr} {t t' : TE} (h : PE X e t) (k : ∀ τ H Q, t' τ H Q → t τ H Q) : PE X e t' := ⟨fun pins s σ H Q I q => h.run pins s σ H Q I (k _ _ _ q)⟩
theorem PT.weak {X : Cx} {e : Expr} {t t' : TT} (h : PT X e t) (k : ∀ τ H Q, t' τ H Q → t τ H Q) : PT X e t' := ⟨fun pins s σ H Q I q => h.run pins s σ H Q I (k _ _ _ q)⟩
theorem PA.weak {X : Cx} {es : List Expr} {t t' : TA} (h : PA X es t) (k : ∀ τ H Q, t' τ H Q → t τ H Q) : PA X es t' := ⟨fun pos pins s σ H Q I q => h.run pos pins s σ H Q I (k _ _ _ q)⟩

section
variable {F : Fx} {Wx : WX} {X : Cx} {pos : Pos} {a b c : Expr} {f g h : FE}

/-! ### going on behind a part -/
theorem tE_bind {τ : L2.St} {H : Hp} {ρ : List Addr} {σ : Sg} {M : Store} {γ δ : Type} {R2 : List Addr → Hp → γ → δ → Prop} {k : W → Store → Out γ} {Q : δ → Hp → Prop} {Q' : VK}
    (rs : RelS F ρ H M) (rg : RelG F ρ H σ τ) (o : oK F R2 (fun c d H' => Wx c d τ H') Q ρ H ((f σ M).bind k))
    (n : ∀ (ρ1 : List Addr) (w : W) (M1 : Store) (v : V) (H1 : Hp), Ext ρ H ρ1 H1 → RelS F ρ1 H1 M1 → RelG F ρ1 H1 σ τ → Rp F ρ1 H1 w v → oK F R2 (fun c d H' => Wx c d τ H') Q ρ1 H1 (k w M1) → Q' v H1) : tE F Wx f τ H Q' := by
  refine ⟨ρ, σ, M, rs, rg, ?_⟩
  cases e : f σ M with
  | ok w M1 =>
    rw [e] at o
    exact fun ρ1 v H1 x s r => n ρ1 w M1 v H1 x s (rg.mono x) r (oK.mono (show oK F R2 _ Q ρ H (k w M1) from o) x)
  | exc c es M1 => rw [e] at o; exact o
  | fail => rw [e] at o; exact o
theorem tQ_bind {fq : Sg → Store → Out Bool} {τ : L2.St} {H : Hp} {ρ : List Addr} {σ : Sg} {M : Store} {γ δ : Type} {R2 : List Addr → Hp → γ → δ → Prop} {k : Bool → Store → Out γ} {Q : δ → Hp → Prop} {Q' : Bool → Hp → Prop}
    (rs : RelS F ρ H M) (rg : RelG F ρ H σ τ) (o : oK F R2 (fun c d H' => Wx c d τ H') Q ρ H ((fq σ M).bind k))
    (n : ∀ (ρ1 : List Addr) (b : Bool) (M1 : Store) (H1 : Hp), Ext ρ H ρ1 H1 → RelS F ρ1 H1 M1 → RelG F ρ1 H1 σ τ → oK F R2 (fun c d H' => Wx c d τ H') Q ρ1 H1 (k b M1) → Q' b H1) : tQ F Wx fq τ H Q' := by
  refine ⟨ρ, σ, M, rs, rg, ?_⟩
  cases e : fq σ M with
  | ok w M1 =>
    rw [e] at o
    refine fun ρ1 v H1 x s r => ?_
    cases (show w = v from r)
    exact n ρ1 w M1 H1 x s (rg.mono x) (oK.mono (show oK F R2 _ Q ρ H (k w M1) from o) x)
  | exc c es M1 => rw [e] at o; exact o
  | fail => rw [e] at o; exact o
theorem tL_bind {fl : Sg → Store → Out (List W)} {τ : L2.St} {H : Hp} {ρ : List Addr} {σ : Sg} {M : Store} {γ δ : Type} {R2 : List Addr → Hp → γ → δ → Prop} {k : List W → Store → Out γ} {Q : δ → Hp → Prop} {Q' : List V → Hp → Prop}
    (rs : RelS F ρ H M) (rg : RelG F ρ H σ τ) (o : oK F R2 (fun c d H' => Wx c d τ H') Q ρ H ((fl σ M).bind k))
    (n : ∀ (ρ1 : List Addr) (ws : List W) (M1 : Store) (vs : List V) (H1 : Hp), Ext ρ H ρ1 H1 → RelS F ρ1 H1 M1 → RelG F ρ1 H1 σ τ → Rps F ρ1 H1 ws vs → oK F R2 (fun c d H' => Wx c d τ H') Q ρ1 H1 (k ws M1) → Q' vs H1) : tL F Wx fl τ H Q' := by
  refine ⟨ρ, σ, M, rs, rg, ?_⟩
  cases e : fl σ M with
  | ok w M1 =>
    rw [e] at o
    exact fun ρ1 v H1 x s r => n ρ1 w M1 v H1 x s (rg.mono x) r (oK.mono (show oK F R2 _ Q ρ H (k w M1) from o) x)
  | exc c es M1 => rw [e] at o; exact o
  | fail => rw [e] at o; exact o
/-- an answer at hand -/
theorem oK_ok {α β : Type} {R : List Addr → Hp → α → β → Prop} {E : XK} {Q : β → Hp → Prop} {ρ : List Addr} {H : Hp} {M : Store} {x : α} {y : β} (o : oK F R E Q ρ H (.ok x M)) (rs : RelS F ρ H M) (r : R ρ H x y) : Q y H := o ρ y H Ext.refl rs r

/-! ### operators by values -/
def r2 (F : Fx) (E : XK) (op : W → W → Store → Out W) : R2 := fun x y H Q => ∃ ρ M u w, RelS F ρ H M ∧ Rp F ρ H u x ∧ Rp F ρ H w y ∧ oK F (Rp F) E Q ρ H (op u w M)
/-- what is raised within an operator is wished for at the slots τ -/
def OpX (X : Cx) (F : Fx) (Wx : WX) (f : Value → Value → Sem Value) (op : W → W → Store → Out W) : Prop :=
  ∀ (pins : List (Addr × Obj)) (s : Shared) (τ : L2.St) (H : Hp) (x y : V) (v u : Value) (Q : VK), Inv X pins τ H s → RelV x v → RelV y u → r2 F (fun c d H' => Wx c d τ H') op x y H Q →
    wpAny (model X.prog X.w) X.A (f v u) (EP X pins τ Q) X.xe s
theorem OpR.toX {fo : Value → Value → Sem Value} {op : W → W → Store → Out W} {r : R2} (h : OpR X fo r) (k : ∀ E x y H Q, r2 F E op x y H Q → r x y H Q) : OpX X F Wx fo op :=
  fun pins s τ H x y v u Q I rx ry q => h pins s τ H x y v u Q I rx ry (k _ x y H Q q)
theorem e_bin {op : Operator} {o : W → W → Store → Out W} (ho : OpX X F Wx (binaryOp op) o) (ha : PE X a (tE F Wx f)) (hb : PE X b (tE F Wx g)) :
    PE X (.BinOp a op b pos) (tE F Wx fun σ M => (f σ M).bind fun x M1 => (g σ M1).bind fun y M2 => o x y M2) := by
  refine ⟨fun pins s τ H Q I ⟨ρ, σ, M, rs, rg, q⟩ => ?_⟩
  refine wpAny_BinOp (bin ha hb (R := fun x y H2 => r2 F (fun c d H' => Wx c d τ H') o x y H2 Q) I ?_ fun v u s2 x y H2 I2 rx ry q => ho pins s2 τ H2 x y v u Q I2 rx ry q)
  refine tE_bind rs rg q fun ρ1 w M1 v H1 x1 rs1 rg1 r1 q1 => tE_bind rs1 rg1 q1 fun ρ2 w2 M2 v2 H2 x2 rs2 rg2 rp2 q2 => ?_
  exact ⟨ρ2, M2, w, w2, rs2, Rp.mono x2 _ _ r1, rp2, q2⟩
theorem e_cmp {op : CmpOp} {o : W → W → Store → Out W} (ho : OpX X F Wx (compareOp op) o) (ha : PE X a (tE F Wx f)) (hb : PE X b (tE F Wx g)) (hm : behindInMarks op b = false) :
    PE X (.Compare a [op] [b] pos) (tE F Wx fun σ M => (f σ M).bind fun x M1 => (g σ M1).bind fun y M2 => o x y M2) := by
  refine ⟨fun pins s τ H Q I ⟨ρ, σ, M, rs, rg, q⟩ => ?_⟩
  refine wpAny_Compare1 (binT ha hb (R := fun x y H2 => r2 F (fun c d H' => Wx c d τ H') o x y H2 Q) I ?_ fun v u s2 x y H2 I2 rx ry q => ho pins s2 τ H2 x y v u Q I2 rx ry q) hm
  refine tE_bind rs rg q fun ρ1 w M1 v H1 x1 rs1 rg1 r1 q1 => tE_bind rs1 rg1 q1 fun ρ2 w2 M2 v2 H2 x2 rs2 rg2 rp2 q2 => ?_
  exact ⟨ρ2, M2, w, w2, rs2, Rp.mono x2 _ _ r1, rp2, q2⟩
/-- a value as a test -/
theorem tstW_K {E : XK} {Q : Bool → Hp → Prop} {ρ : List Addr} {H : Hp} {o : Out W} (h : oK F RB E Q ρ H (tstW o)) : oK F (Rp F) E (fun v H1 => ∃ k, v = .bl k ∧ Q k H1) ρ H o := by
  cases o with
  | ok w M =>
    cases w with
    | bl b => exact fun ρ1 v H1 x s r => ⟨b, r, h ρ1 b H1 x s rfl⟩
    | _ => exact (show False from h).elim
  | exc c es M => exact h
  | fail => exact h
theorem t_cmp {op : CmpOp} {o : W → W → Store → Out W} (ho : OpX X F Wx (compareOp op) o) (ha : PE X a (tE F Wx f)) (hb : PE X b (tE F Wx g)) (hm : behindInMarks op b = false) :
    PT X (.Compare a [op] [b] pos) (tQ F Wx fun σ M => tstW ((f σ M).bind fun x M1 => (g σ M1).bind fun y M2 => o x y M2)) := by
  refine ⟨fun pins s τ H Q I ⟨ρ, σ, M, rs, rg, q⟩ => ?_⟩
  have q' := tstW_K q
  refine wpAny_isTrue_Compare1 (bin ha hb I (R := fun x y H2 => r2 F (fun c d H' => Wx c d τ H') o x y H2 (fun v H1 => ∃ k, v = .bl k ∧ Q k H1)) ?_ fun v u s2 x y H2 I2 rx ry q => thn (ho pins s2 τ H2 x y v u _ I2 rx ry q) fun c s3 ⟨z, H3, I3, r3, k, e, q3⟩ => ?_) hm
  · refine tE_bind rs rg q' fun ρ1 w M1 v H1 x1 rs1 rg1 r1 q1 => tE_bind rs1 rg1 q1 fun ρ2 w2 M2 v2 H2 x2 rs2 rg2 rp2 q2 => ?_
    exact ⟨ρ2, M2, w, w2, rs2, Rp.mono x2 _ _ r1, rp2, q2⟩
  · subst e
    cases r3
    exact wpAny_truthy_bool ⟨H3, I3, q3⟩

/-! ### names and constants -/
theorem e_var {i : Nat} {x : Str} (hN : X.N[i]? = some x) (hv : Vis X.env.scope x) (hd : (x == ("__debug__" : Str)) = false) (hcd : (x == ("__classdict__" : Str)) = false) :
    PE X (.Name x pos) (tE F Wx fun σ M => varW i σ M) := by
  refine PE.weak (pe_var hN hv hd hcd) fun τ H Q ⟨ρ, σ, M, rs, rg, q⟩ => ?_
  dsimp only at q
  unfold varW at q
  split at q
  · exact q.elim
  · rename_i w n e
    obtain ⟨v, h1, r⟩ := rg.at_ i w e
    exact ⟨v, h1, oK_ok q rs (r.toR n)⟩
  · exact q.elim
theorem e_con {e : Expr} {v : V} {w : W} (h : PE X e (tC v)) (r : ∀ ρ H, Rp F ρ H w v) : PE X e (tE F Wx fun _ M => .ok w M) :=
  PE.weak h fun τ H Q ⟨ρ, σ, M, rs, rg, q⟩ => oK_ok q rs (r ρ H)

/-! ### and, or, not, if -/
theorem tE_tst {τ : L2.St} {H : Hp} {ρ : List Addr} {σ : Sg} {M : Store} {γ δ : Type} {R2 : List Addr → Hp → γ → δ → Prop} {k : Bool → Store → Out γ} {Q : δ → Hp → Prop} {Q' : VK}
    (rs : RelS F ρ H M) (rg : RelG F ρ H σ τ) (o : oK F R2 (fun c d H' => Wx c d τ H') Q ρ H ((tstW (f σ M)).bind k))
    (n : ∀ (ρ1 : List Addr) (b : Bool) (M1 : Store) (H1 : Hp), Ext ρ H ρ1 H1 → RelS F ρ1 H1 M1 → RelG F ρ1 H1 σ τ → oK F R2 (fun c d H' => Wx c d τ H') Q ρ1 H1 (k b M1) → Q' (.bl b) H1) : tE F Wx f τ H Q' := by
  refine ⟨ρ, σ, M, rs, rg, ?_⟩
  cases e : f σ M with
  | ok w M1 =>
    rw [e] at o
    cases w with
    | bl b =>
      refine fun ρ1 v H1 x s r => ?_
      cases (show v = .bl b from r)
      exact n ρ1 b M1 H1 x s (rg.mono x) (oK.mono (show oK F R2 _ Q ρ H (k b M1) from o) x)
    | _ => exact (show False from o).elim
  | exc c es M1 => rw [e] at o; exact o
  | fail => rw [e] at o; exact o
theorem e_not (ha : PE X a (tE F Wx f)) : PE X (.UnaryOp .Not a pos) (tE F Wx fun σ M => (tstW (f σ M)).bind fun k M1 => .ok (.bl (!k)) M1) := by
  refine PE.weak (pe_not ha) fun τ H Q ⟨ρ, σ, M, rs, rg, q⟩ => ?_
  exact tE_tst rs rg q fun ρ1 b M1 H1 x1 rs1 rg1 q1 => ⟨b, rfl, oK_ok q1 rs1 rfl⟩
theorem e_and {rest : List Expr} (ha : PE X a (tE F Wx f)) (hb : PE X (.BoolOp .And (b :: rest) pos) (tE F Wx g)) :
    PE X (.BoolOp .And (a :: b :: rest) pos) (tE F Wx fun σ M => (tstW (f σ M)).bind fun k M1 => match k with | true => g σ M1 | false => .ok (.bl false) M1) := by
  refine PE.weak (pe_and ha hb) fun τ H Q ⟨ρ, σ, M, rs, rg, q⟩ => ?_
  refine tE_tst rs rg q fun ρ1 b M1 H1 x1 rs1 rg1 q1 => ⟨b, rfl, ?_⟩
  cases b with
  | true => rw [if_pos rfl]; exact ⟨ρ1, σ, M1, rs1, rg1, q1⟩
  | false => rw [if_neg Bool.false_ne_true]; exact oK_ok q1 rs1 rfl
theorem e_or {rest : List Expr} (ha : PE X a (tE F Wx f)) (hb : PE X (.BoolOp .Or (b :: rest) pos) (tE F Wx g)) :
    PE X (.BoolOp .Or (a :: b :: rest) pos) (tE F Wx fun σ M => (tstW (f σ M)).bind fun k M1 => match k with | true => .ok (.bl true) M1 | false => g σ M1) := by
  refine PE.weak (pe_or ha hb) fun τ H Q ⟨ρ, σ, M, rs, rg, q⟩ => ?_
  refine tE_tst rs rg q fun ρ1 b M1 H1 x1 rs1 rg1 q1 => ⟨b, rfl, ?_⟩
  cases b with
  | true => rw [if_pos rfl]; exact oK_ok q1 rs1 rfl
  | false => rw [if_neg Bool.false_ne_true]; exact ⟨ρ1, σ, M1, rs1, rg1, q1⟩
theorem e_ife {fc : FE} (hc : PT X c (tQ F Wx fun σ M => tstW (fc σ M))) (ha : PE X a (tE F Wx f)) (hb : PE X b (tE F Wx g)) :
    PE X (.IfExp c a b pos) (tE F Wx fun σ M => (tstW (fc σ M)).bind fun k M1 => match k with | true => f σ M1 | false => g σ M1) := by
  refine PE.weak (pe_ifExp hc ha hb) fun τ H Q ⟨ρ, σ, M, rs, rg, q⟩ => ?_
  refine tQ_bind (fq := fun σ M => tstW (fc σ M)) rs rg q fun ρ1 b M1 H1 x1 rs1 rg1 q1 => ?_
  cases b with
  | true => rw [if_pos rfl]; exact ⟨ρ1, σ, M1, rs1, rg1, q1⟩
  | false => rw [if_neg Bool.false_ne_true]; exact ⟨ρ1, σ, M1, rs1, rg1, q1⟩
/-- as tests -/
theorem t_val {e : Expr} (h : PE X e (tE F Wx f)) (he : ∀ whole, isTrue e X.env whole = (do let v ← whole; standAt e.pos; holding [v] (truthy v))) : PT X e (tQ F Wx fun σ M => tstW (f σ M)) := by
  refine PT.weak (pt_val h he) fun τ H Q ⟨ρ, σ, M, rs, rg, q⟩ => ⟨ρ, σ, M, rs, rg, tstW_K q⟩
theorem tst_tst (o : Out Bool) : tstW (o.bind fun k M1 => .ok (.bl k) M1) = o := by cases o <;> rfl
theorem tst_not (o : Out W) : tstW ((tstW o).bind fun k M1 => .ok (.bl (!k)) M1) = (tstW o).bind fun k M1 => .ok (!k) M1 := by
  cases o with
  | ok w M => cases w <;> rfl
  | _ => rfl
theorem tst_and (o : Out W) (r : Store → Out W) : tstW ((tstW o).bind fun k M1 => match k with | true => r M1 | false => .ok (.bl false) M1) = (tstW o).bind fun k M1 => match k with | true => tstW (r M1) | false => .ok false M1 := by
  cases o with
  | ok w M =>
    cases w with
    | bl b => cases b <;> rfl
    | _ => rfl
  | _ => rfl
theorem tst_or (o : Out W) (r : Store → Out W) : tstW ((tstW o).bind fun k M1 => match k with | true => .ok (.bl true) M1 | false => r M1) = (tstW o).bind fun k M1 => match k with | true => .ok true M1 | false => tstW (r M1) := by
  cases o with
  | ok w M =>
    cases w with
    | bl b => cases b <;> rfl
    | _ => rfl
  | _ => rfl
theorem t_not (ha : PT X a (tQ F Wx fun σ M => tstW (f σ M))) : PT X (.UnaryOp .Not a pos) (tQ F Wx fun σ M => tstW ((tstW (f σ M)).bind fun k M1 => .ok (.bl (!k)) M1)) := by
  refine PT.weak (pt_not ha) fun τ H Q ⟨ρ, σ, M, rs, rg, q⟩ => ?_
  dsimp only at q
  rw [tst_not] at q
  exact tQ_bind (fq := fun σ M => tstW (f σ M)) rs rg q fun ρ1 b M1 H1 x1 rs1 rg1 q1 => oK_ok q1 rs1 rfl
theorem t_and {rest : List Expr} (ha : PT X a (tQ F Wx fun σ M => tstW (f σ M))) (hb : PW X (.BoolOp .And (b :: rest) pos) (tQ F Wx fun σ M => tstW (g σ M))) :
    PW X (.BoolOp .And (a :: b :: rest) pos) (tQ F Wx fun σ M => tstW ((tstW (f σ M)).bind fun k M1 => match k with | true => g σ M1 | false => .ok (.bl false) M1)) := by
  refine ⟨fun wh pins s τ H Q I ⟨ρ, σ, M, rs, rg, q⟩ => (pw_and ha hb).run wh pins s τ H Q I ?_⟩
  have e := tst_and (f σ M) (fun M1 => g σ M1)
  dsimp only at q e
  rw [e] at q
  refine tQ_bind (fq := fun σ M => tstW (f σ M)) rs rg q fun ρ1 b M1 H1 x1 rs1 rg1 q1 => ?_
  cases b with
  | true => rw [if_pos rfl]; exact ⟨ρ1, σ, M1, rs1, rg1, q1⟩
  | false => rw [if_neg Bool.false_ne_true]; exact oK_ok q1 rs1 rfl
theorem t_or {rest : List Expr} (ha : PT X a (tQ F Wx fun σ M => tstW (f σ M))) (hb : PW X (.BoolOp .Or (b :: rest) pos) (tQ F Wx fun σ M => tstW (g σ M))) :
    PW X (.BoolOp .Or (a :: b :: rest) pos) (tQ F Wx fun σ M => tstW ((tstW (f σ M)).bind fun k M1 => match k with | true => .ok (.bl true) M1 | false => g σ M1)) := by
  refine ⟨fun wh pins s τ H Q I ⟨ρ, σ, M, rs, rg, q⟩ => (pw_or ha hb).run wh pins s τ H Q I ?_⟩
  have e := tst_or (f σ M) (fun M1 => g σ M1)
  dsimp only at q e
  rw [e] at q
  refine tQ_bind (fq := fun σ M => tstW (f σ M)) rs rg q fun ρ1 b M1 H1 x1 rs1 rg1 q1 => ?_
  cases b with
  | true => rw [if_pos rfl]; exact oK_ok q1 rs1 rfl
  | false => rw [if_neg Bool.false_ne_true]; exact ⟨ρ1, σ, M1, rs1, rg1, q1⟩

/-! ### rows of arguments, displays -/
theorem lenOk_le {n : Nat} (h : lenOk n = true) : n ≤ sizeLine := by
  rw [sizeLine_eq]
  exact Nat.le_of_ble_eq_true h
theorem a_nil : PA X [] (tL F Wx fun _ M => .ok [] M) := PA.weak pa_nil fun τ H Q ⟨ρ, σ, M, rs, rg, q⟩ => oK_ok q rs rfl
theorem a_one {es : List Expr} {fl : Sg → Store → Out (List W)} (ha : PE X a (tE F Wx f)) (hr : PA X es (tL F Wx fl)) (hs : starEach (a :: es) X.env = (false, eval a X.env) :: starEach es X.env) :
    PA X (a :: es) (tL F Wx fun σ M => (f σ M).bind fun w M1 => (fl σ M1).bind fun ws M2 => .ok (w :: ws) M2) := by
  refine PA.weak (pa_cons ha hr hs) fun τ H Q ⟨ρ, σ, M, rs, rg, q⟩ => ?_
  refine tE_bind rs rg q fun ρ1 w M1 v H1 x1 rs1 rg1 r1 q1 => tL_bind rs1 rg1 q1 fun ρ2 ws M2 vs H2 x2 rs2 rg2 r2 q2 => ?_
  exact oK_ok q2 rs2 ⟨v, vs, rfl, Rp.mono x2 _ _ r1, r2⟩
/-- a dict that is read: of the store, frozen, of the written part -/
def SqD (K : PySem.W.Frag) (H : Hp) (p : Addr) (ds : List DictEntry) : Prop := H p = some (dicO p ds) ∨ FzD K H p ds
theorem rd_rel {ρ : List Addr} {H : Hp} {M : Store} {w : W} {v : V} (rs : RelS F ρ H M) (r : Rp F ρ H w v) : match rd M w with
    | .lst us => ∃ p xs, v = .ref p ∧ Rd H p (.lst xs) ∧ Rps F ρ H us xs
    | .tup us => ∃ p xs, v = .ref p ∧ SqT F.K H p xs ∧ Rps F ρ H us xs
    | .dic es => ∃ p ds, v = .ref p ∧ (p == sysModules) = false ∧ SqD F.K H p ds ∧ es.length ≤ sizeLine ∧ KDist es ∧ RpE F ρ H es ds
    | w' => Rp F ρ H w' v := by
  cases w with
  | tup us => exact r
  | lst us =>
    obtain ⟨a, xs, e1, h1, h2⟩ := r
    exact ⟨a, xs, e1, h1.rd, h2⟩
  | dic es =>
    obtain ⟨a, ds, e1, h0, h1, h2⟩ := r
    exact ⟨a, ds, e1, h0, .inr h1, h2⟩
  | ref l =>
    obtain ⟨a, e1, e2⟩ := r
    show (match (match M[l]? with
      | some (.lst ws) => W.lst ws
      | some (.dic es) => .dic es
      | some (.frz w) => w
      | _ => .ref l) with
      | .lst us => ∃ p xs, v = .ref p ∧ Rd H p (.lst xs) ∧ Rps F ρ H us xs
      | .tup us => ∃ p xs, v = .ref p ∧ SqT F.K H p xs ∧ Rps F ρ H us xs
      | .dic es => ∃ p ds, v = .ref p ∧ (p == sysModules) = false ∧ SqD F.K H p ds ∧ es.length ≤ sizeLine ∧ KDist es ∧ RpE F ρ H es ds
      | w' => Rp F ρ H w' v)
    cases q : M[l]? with
    | none => exact ⟨a, e1, e2⟩
    | some o =>
      cases o with
      | frz u =>
        have h := (rs.ob l _ a q e1).1
        rw [← e2] at h
        cases u with
        | tup us => exact h
        | lst us =>
          obtain ⟨a, xs, e1, h1, h2⟩ := h
          exact ⟨a, xs, e1, h1.rd, h2⟩
        | dic es =>
          obtain ⟨a, ds, e1, h0, h1, h2⟩ := h
          exact ⟨a, ds, e1, h0, .inr h1, h2⟩
        | _ => exact h
      | lst us =>
        obtain ⟨xs, h1, h2⟩ := rs.ob l _ a q e1
        exact ⟨a, xs, e2, Rd.of h1, h2⟩
      | dic es =>
        obtain ⟨ds, h0, h1, h2⟩ := rs.ob l _ a q e1
        exact ⟨a, ds, e2, h0, .inl h1, h2⟩
      | _ => exact ⟨a, e1, e2⟩
  | _ => exact r
theorem seqOf_rel {ρ : List Addr} {H : Hp} {M : Store} {w : W} {v : V} {ws : List W} (rs : RelS F ρ H M) (r : Rp F ρ H w v) (e : seqOf M w = some ws) :
    ∃ p xs, v = .ref p ∧ (SqT F.K H p xs ∨ Rd H p (.lst xs)) ∧ Rps F ρ H ws xs := by
  have h := rd_rel rs r
  unfold seqOf at e
  split at e
  · rename_i us q
    cases e
    rw [q] at h
    obtain ⟨p, xs, e1, h1, h2⟩ := h
    exact ⟨p, xs, e1, .inr h1, h2⟩
  · rename_i us q
    cases e
    rw [q] at h
    obtain ⟨p, xs, e1, h1, h2⟩ := h
    exact ⟨p, xs, e1, .inl h1, h2⟩
  · cases e
theorem lstOf_rel {ρ : List Addr} {H : Hp} {M : Store} {w : W} {v : V} {ws : List W} (rs : RelS F ρ H M) (r : Rp F ρ H w v) (e : lstOf M w = some ws) :
    ∃ p xs, v = .ref p ∧ Rd H p (.lst xs) ∧ Rps F ρ H ws xs := by
  have h := rd_rel rs r
  unfold lstOf at e
  split at e
  · rename_i us q
    cases e
    rw [q] at h
    exact h
  · cases e
theorem dicOf_rel {ρ : List Addr} {H : Hp} {M : Store} {w : W} {v : V} {es : List W} (rs : RelS F ρ H M) (r : Rp F ρ H w v) (e : dicOf M w = some es) :
    ∃ p ds, v = .ref p ∧ (p == sysModules) = false ∧ SqD F.K H p ds ∧ es.length ≤ sizeLine ∧ KDist es ∧ RpE F ρ H es ds := by
  have h := rd_rel rs r
  unfold dicOf at e
  split at e
  · rename_i us q
    cases e
    rw [q] at h
    exact h
  · cases e
theorem a_star {es : List Expr} {fl : Sg → Store → Out (List W)} {p : Pos} (hK : F.K = X.K) (ha : PE X a (tE F Wx f)) (hr : PA X es (tL F Wx fl)) :
    PA X (.Starred a p :: es) (tL F Wx fun σ M => (f σ M).bind fun w M1 => match seqOf M1 w with
      | some xs => (fl σ M1).bind fun ws M2 => .ok (xs ++ ws) M2
      | none => .fail) := by
  refine PA.weak (StX.pa_star ha hr) fun τ H Q ⟨ρ, σ, M, rs, rg, q⟩ => ?_
  rw [← hK]
  refine tE_bind rs rg q fun ρ1 w M1 v H1 x1 rs1 rg1 r1 q1 => ?_
  cases e : seqOf M1 w with
  | none => rw [e] at q1; exact q1.elim
  | some us =>
    rw [e] at q1
    obtain ⟨p, xs, e1, h1, h2⟩ := seqOf_rel rs1 r1 e
    refine ⟨p, xs, e1, h1.imp id .inl, tL_bind rs1 rg1 q1 fun ρ2 ws M2 vs H2 x2 rs2 rg2 r2 q2 => ?_⟩
    exact oK_ok q2 rs2 (Rps.append (Rps.mono x2 _ _ h2) r2)
/-- a tuple just laid -/
theorem new_tup {E : XK} {Q : VK} {ρ : List Addr} {H : Hp} {M : Store} {ws : List W} {xs : List V} (rs : RelS F ρ H M) (r : Rps F ρ H ws xs) (q : oK F (Rp F) E Q ρ H (mkT ws M)) :
    xs.length ≤ sizeLine ∧ ∀ p, H p = none → Q (.ref p) (upd H p (.tup xs)) := by
  unfold mkT at q
  cases e : lenOk ws.length with
  | false => rw [e] at q; exact q.elim
  | true =>
    rw [e] at q
    refine ⟨by rw [r.length]; exact lenOk_le e, fun p hp => ?_⟩
    exact q ρ (.ref p) _ (Ext.upd0 hp) (rs.upd0 hp) ⟨p, xs, rfl, SqT.of upd_same, Rps.mono (Ext.upd0 hp) _ _ r⟩
theorem e_tup {es : List Expr} {k : Nat} {fl : Sg → Store → Out (List W)} (ha : PA X es (tL F Wx fl)) : PE X (.Tuple es k pos) (tE F Wx fun σ M => (fl σ M).bind mkT) := by
  refine PE.weak (pe_tup ha) fun τ H Q ⟨ρ, σ, M, rs, rg, q⟩ => ?_
  exact tL_bind rs rg q fun ρ1 ws M1 xs H1 x1 rs1 rg1 r1 q1 => new_tup rs1 r1 q1
end

/-! ### new lists, data for good or of the store -/
section
variable {F : Fx} {X : Cx}
/-- a value has come, its object may be locked for good -/
theorem EP.lock {pins : List (Addr × Obj)} {τ : L2.St} {Q Q' : VK} {u : Value} {s : Shared} (h : EP X pins τ Q' u s) (k : ∀ v H, Q' v H → Q v H ∨ ∃ (d : Addr) (o : HO), H d = some o ∧ Mut (some o) ∧ ∀ od, Q v (upd H d (.frz od o))) : EP X pins τ Q u s := by
  obtain ⟨v, H, I, r, q⟩ := h
  rcases k v H q with q | ⟨d, o, hd, m, q⟩
  · exact ⟨v, H, I, r, q⟩
  · obtain ⟨od, I1⟩ := I.lock hd m
    exact ⟨v, _, I1, r, q od⟩
/-- a reading that may lock the object that it hands back -/
def tLockV (t : TE) : TE := fun τ H Q => t τ H fun v H1 => Q v H1 ∨ ∃ (d : Addr) (o : HO), H1 d = some o ∧ Mut (some o) ∧ ∀ od, Q v (upd H1 d (.frz od o))
theorem PE.lockV {e : Expr} {t : TE} (h : PE X e t) : PE X e (tLockV t) :=
  ⟨fun pins s τ H Q I q => thn (h.run pins s τ H _ I q) fun _ _ z => EP.lock z fun _ _ z => z⟩
theorem Ext.fresh_frz {ρ : List Addr} {H : Hp} {p : Addr} {o : HO} {od : Obj} (h : H p = none) : Ext ρ H ρ (upd (upd H p o) p (.frz od o)) := by
  rw [upd_upd]
  exact Ext.upd0 h
/-- a list just laid: data for good, or an object of the store -/
theorem new_lst {E : XK} {Q : VK} {ρ : List Addr} {H : Hp} {M : Store} {fz : Bool} {ws : List W} {xs : List V} (rs : RelS F ρ H M) (r : Rps F ρ H ws xs) (q : oK F (Rp F) E Q ρ H (mkL fz ws M)) :
    xs.length ≤ sizeLine ∧ ∀ p, H p = none → Q (.ref p) (upd H p (.lst xs)) ∨ ∃ (d : Addr) (o : HO), (upd H p (.lst xs)) d = some o ∧ Mut (some o) ∧ ∀ od, Q (.ref p) (upd (upd H p (.lst xs)) d (.frz od o)) := by
  unfold mkL at q
  cases e : lenOk ws.length with
  | false => rw [e] at q; exact q.elim
  | true =>
    rw [e] at q
    refine ⟨by rw [r.length]; exact lenOk_le e, fun p hp => ?_⟩
    cases fz with
    | false =>
      refine .inl ?_
      refine q (ρ ++ [p]) (.ref p) _ (Ext.upd_fresh hp [p]) (rs.push hp ⟨xs, upd_same, Rps.mono (Ext.upd_fresh hp [p]) _ _ r⟩) ⟨p, ?_, rfl⟩
      rw [← rs.len]
      simp
    | true =>
      refine .inr ⟨p, .lst xs, upd_same, True.intro, fun od => ?_⟩
      rw [upd_upd]
      exact q ρ (.ref p) _ (Ext.upd0 hp) (rs.upd0 hp) ⟨p, xs, rfl, ⟨od, upd_same⟩, Rps.mono (Ext.upd0 hp) _ _ r⟩
variable {Wx : WX} {pos : Pos}
theorem e_lst {es : List Expr} {fz : Bool} {fl : Sg → Store → Out (List W)} (ha : PA X es (tL F Wx fl)) : PE X (.List es pos) (tE F Wx fun σ M => (fl σ M).bind (mkL fz)) := by
  refine PE.weak (PE.lockV (pe_lst ha)) fun τ H Q ⟨ρ, σ, M, rs, rg, q⟩ => ?_
  exact tL_bind rs rg q fun ρ1 ws M1 xs H1 x1 rs1 rg1 r1 q1 => new_lst rs1 r1 q1
end
end Mp
set_option Elab.async false
set_option linter.all false
set_option maxRecDepth 100000
set_option maxHeartbeats 1000000
namespace Mp
open PySem PySem.Spec PyProof.Rows L2
section
variable {F : Fx} {Wx : WX} {X : Cx}
theorem lstR {pins : List (Addr × Obj)} {τ : L2.St} {H : Hp} {s : Shared} {a : Addr} {xs : List V} (I : Inv X pins τ H s) (h : Rd H a (.lst xs)) :
    ∃ (its : List Value) (n : Nat), Vals xs its ∧ s.heap.get? a = some { cls := .type "list", data := .seq its.toArray n } ∧ xs.length ≤ sizeLine := by
  obtain ⟨z, its, n, r, e⟩ := h.ok I.hok
  exact ⟨its, n, r, e, z⟩
/-- a new list at the heap's end -/
theorem EP.newL {E : XK} {pins : List (Addr × Obj)} {τ : L2.St} {H : Hp} {s : Shared} {ρ : List Addr} {M : Store} {fz : Bool} {ws : List W} {xs : List V} {its : List Value} {n tk : Nat} {h' : Heap} {Q : VK} (I : Inv X pins τ H s) (rs : RelS F ρ H M) (r : Rps F ρ H ws xs)
    (q : oK F (Rp F) E Q ρ H (mkL fz ws M)) (rv : Vals xs its) (k : ∀ b o, s.heap.get? b = some o → h'.get? b = some o) (p : Addr) (hp : s.heap.objs.size ≤ p) (e : h'.get? p = some { cls := .type "list", data := .seq its.toArray n }) :
    EP X pins τ Q (.ref p) { s with heap := h', toks := tk } := by
  have hf := I.hok.fresh hp
  obtain ⟨z, g⟩ := new_lst rs r q
  have I1 : Inv X pins τ (upd H p (.lst xs)) { s with heap := h', toks := tk } := I.laid k hp ⟨z, its, n, rv, e⟩
  exact EP.lock (Q' := fun v H1 => v = .ref p ∧ H1 = upd H p (.lst xs)) ⟨.ref p, _, I1, rfl, rfl, rfl⟩ fun v H1 ⟨e1, e2⟩ => by
    subst e1 e2
    exact g p hf
/-- a new tuple at the heap's end -/
theorem EP.newT {E : XK} {pins : List (Addr × Obj)} {τ : L2.St} {H : Hp} {s : Shared} {ρ : List Addr} {M : Store} {ws : List W} {xs : List V} {its : List Value} {tk : Nat} {h' : Heap} {Q : VK} (I : Inv X pins τ H s) (rs : RelS F ρ H M) (r : Rps F ρ H ws xs)
    (q : oK F (Rp F) E Q ρ H (mkT ws M)) (rv : Vals xs its) (k : ∀ b o, s.heap.get? b = some o → h'.get? b = some o) (p : Addr) (hp : s.heap.objs.size ≤ p) (e : IsTup h' p its.toArray) :
    EP X pins τ Q (.ref p) { s with heap := h', toks := tk } := by
  obtain ⟨z, g⟩ := new_tup rs r q
  exact ⟨.ref p, _, I.laid (o := .tup xs) k hp ⟨z, its, rv, e⟩, rfl, g p (I.hok.fresh hp)⟩
theorem ox_add (hK : F.K = X.K) (fz : Bool) : OpX X F Wx (binaryOp .Add) (addW fz) := by
  intro pins s τ H x y v u Q I rx ry ⟨ρ, M, a, b, rs, ra, rb, q⟩
  unfold addW at q
  split at q
  · cases (show x = .int _ from ra)
    cases (show y = .int _ from rb)
    exact op_add pins s τ H _ _ v u Q I rx ry ⟨_, _, rfl, rfl, oK_ok q rs rfl⟩
  · cases (show x = .str _ from ra)
    cases (show y = .str _ from rb)
    split at q
    · rename_i hz
      exact op_add_str pins s τ H _ _ v u Q I rx ry ⟨_, _, rfl, rfl, lenOk_le hz, oK_ok q rs rfl⟩
    · exact q.elim
  · obtain ⟨p, xs, rfl, h1, h2⟩ := ra
    obtain ⟨p', ys, rfl, h3, h4⟩ := rb
    rw [hK] at h1 h3
    unfold mkT at q
    split at q
    · rename_i hz
      refine op_catA pins s τ H _ _ v u Q I rx ry ⟨p, p', xs, ys, rfl, rfl, h1, h3, ?_, fun e => ?_, fun e1 e2 => ?_, fun e1 e2 r hr => ?_⟩
      · rw [← List.length_append, (Rps.append h2 h4).length]; exact lenOk_le hz
      · refine oK_ok q rs ⟨p', _, rfl, by rw [hK]; exact h3, ?_⟩
        have := Rps.append h2 h4
        rw [e] at this
        exact this
      · refine oK_ok q rs ⟨p, _, rfl, by rw [hK]; exact h1, ?_⟩
        have := Rps.append h2 h4
        rw [e2, List.append_nil] at this
        exact this
      · exact q ρ (.ref r) _ (Ext.upd0 hr) (rs.upd0 hr) ⟨r, _, rfl, SqT.of upd_same, Rps.mono (Ext.upd0 hr) _ _ (Rps.append h2 h4)⟩
    · exact q.elim
  · rename_i M' _ _ _
    split at q
    · rename_i xs ys e1 e2
      obtain ⟨p, us, rfl, h1, h2⟩ := lstOf_rel rs ra e1
      obtain ⟨p', vs, rfl, h3, h4⟩ := lstOf_rel rs rb e2
      cases rx
      cases ry
      obtain ⟨its, n, r, e, z⟩ := lstR I h1
      obtain ⟨its2, n2, r', e', z'⟩ := lstR I h3
      have hz : lenOk (xs ++ ys).length = true := by
        unfold mkL at q
        cases e : lenOk (xs ++ ys).length with
        | true => rfl
        | false => rw [e] at q; exact q.elim
      have hz' := lenOk_le hz
      rw [← (Rps.append h2 h4).length, List.length_append, r.length, r'.length] at hz'
      refine PySem.P.add_list e e' ?_ (by rw [List.size_toArray, List.size_toArray]; omega)
      have ea : its.toArray ++ its2.toArray = (its ++ its2).toArray := by simp
      rw [ea]
      exact EP.newL (tk := s.toks) I rs (Rps.append h2 h4) q (r.append r') (fun b o q => Heap.get?_push_of_some _ q) _ (Nat.le_refl _) (Heap.get?_push_size _ rfl)
    · exact q.elim

theorem ox_sub : OpX X F Wx (binaryOp .Sub) subW := by
  intro pins s τ H x y v u Q I rx ry ⟨ρ, M, a, b, rs, ra, rb, q⟩
  unfold subW at q
  split at q
  · cases (show x = .int _ from ra)
    cases (show y = .int _ from rb)
    exact op_sub pins s τ H _ _ v u Q I rx ry ⟨_, _, rfl, rfl, oK_ok q rs rfl⟩
  · exact q.elim
theorem mulOk_ok {i j : Int} (h : mulOk i j = true) : CMul i j := by
  unfold mulOk at h
  rcases Bool.or_eq_true_iff.mp h with h | h
  · have h := Nat.le_of_ble_eq_true h
    exact .inl (by omega)
  · have h := Nat.le_of_ble_eq_true h
    exact .inr (by omega)
/-- t * 1 is t -/
theorem tuple_mul1 (l : Addr) (items : Array Value) (n : Nat) (dd : Option Addr) (sl : Array (Option Value)) (u : Tok) :
    Meets (Builtin.«tuple.__mul__» ⟨[.ref l, .int 1 u], []⟩) (fun _ R s => s.heap.get? l = some { cls := .type "tuple", dict := dd, data := .seq items n, slots := sl } ∧
      R (.ok (.ret (Value.ref l))) s) :=
  .of_wp fun prog w A R s h => by
    obtain ⟨hp, g, d, tk, os⟩ := s
    obtain ⟨hl, h⟩ := h
    have f1 := AutoSeq1.idx_int
    have c1 : (items.isEmpty || (1 : Int) == 1) = true := by simp
    wp_walk using wpAny_loadPart' hl
    repeat (first
      | (refine wpAny_ite_false (decide_eq_false (by decide)) ?_; wp_walk using wpAny_loadPart' hl)
      | (refine wpAny_ite_true (decide_eq_true c1) ?_; wp_walk using wpAny_loadPart' hl))
    exact ⟨_, rfl, h⟩
theorem ox_mult (hK : F.K = X.K) (fz : Bool) : OpX X F Wx (binaryOp .Mult) (multW fz) := by
  intro pins s τ H x y v u Q I rx ry ⟨ρ, M, a, b, rs, ra, rb, q⟩
  unfold multW at q
  split at q
  · cases (show x = .int _ from ra)
    cases (show y = .int _ from rb)
    split at q
    · rename_i hz
      exact op_mul pins s τ H _ _ v u Q I rx ry ⟨_, _, rfl, rfl, mulOk_ok hz, oK_ok q rs rfl⟩
    · exact q.elim
  · rename_i xs k
    obtain ⟨p, vs, rfl, h1, h2⟩ := ra
    cases (show y = .int _ from rb)
    rw [hK] at h1
    split at q
    · rename_i hz
      obtain ⟨z1, hz⟩ := Bool.and_eq_true_iff.mp hz
      obtain ⟨z2, z3⟩ := Bool.and_eq_true_iff.mp hz
      obtain ⟨z4, z5⟩ := Bool.and_eq_true_iff.mp z2
      obtain ⟨z6, z7⟩ := Bool.and_eq_true_iff.mp z5
      have z1 := of_decide_eq_true z1
      have z6 := of_decide_eq_true z6
      have z7 := Nat.le_of_ble_eq_true z7
      have hl := h2.length
      have hne : vs ≠ [] := fun e => by
        rw [e] at hl
        have : xs = [] := List.eq_nil_of_length_eq_zero hl.symm
        rw [this] at z3
        cases z3
      have rep : ∀ n : Nat, Rps F ρ H (List.replicate n xs).flatten (List.replicate n vs).flatten := fun n => by
        induction n with
        | zero => exact rfl
        | succ n ih =>
          rw [List.replicate_succ, List.flatten_cons, List.replicate_succ, List.flatten_cons]
          exact Rps.append h2 ih
      by_cases hk : k = 1
      · subst hk
        cases rx
        obtain ⟨t, rfl⟩ := ry
        obtain ⟨its, r, ⟨⟨cls, dd, data, sl⟩, ho, hc, n, hd⟩, hs⟩ := I.tuple h1
        simp only at hc hd
        subst hc hd
        refine wpAny_binaryOp_repeat_ref (T := "tuple") (U := "int") (by decide) ⟨_, ho, rfl⟩ (fun s' => typeIs_int s' 1 t) noFill_tuple_mul PySem.F.fills_int_mul PySem.F.slot_int_rmul repeat_tuple PySem.F.slot_int_index.lookup
          (call_meets PySem.F.slot_int_rmul (typeIs_int s 1 t) PySem.F.entry_int_rmul (PySem.F.args_int_rmul_2 _ _) (int_rmul_tuple 1 t p its.toArray n dd sl)
            ⟨ho, rfl, ⟨_, ho, rfl⟩, call_meets PySem.F.slot_tuple_mul ⟨_, ho, rfl⟩ PySem.F.entry_tuple_mul (PySem.F.args_tuple_mul_2 _ _) (tuple_mul1 p its.toArray n dd sl t) ⟨ho, ?_⟩⟩)
        refine ⟨.ref p, H, I, rfl, oK_ok q rs ⟨p, vs, rfl, by rw [hK]; exact h1, ?_⟩⟩
        have := rep 1
        simpa using this
      · refine op_repT pins s τ H _ _ v u Q I rx ry ⟨p, k, vs, rfl, rfl, h1, hne, by omega, z6, by omega, fun r hr => ?_⟩
        exact q ρ (.ref r) _ (Ext.upd0 hr) (rs.upd0 hr) ⟨r, _, rfl, SqT.of upd_same, Rps.mono (Ext.upd0 hr) _ _ (rep _)⟩
    · exact q.elim
  · exact q.elim
theorem ox_fdiv : OpX X F Wx (binaryOp .FloorDiv) fdivW := by
  intro pins s τ H x y v u Q I rx ry ⟨ρ, M, a, b, rs, ra, rb, q⟩
  unfold fdivW at q
  split at q
  · cases (show x = .int _ from ra)
    cases (show y = .int _ from rb)
    split at q
    · rename_i hz
      obtain ⟨z1, z2⟩ := Bool.and_eq_true_iff.mp hz
      exact op_fdivN pins s τ H _ _ v u Q I rx ry ⟨_, _, rfl, rfl, ⟨of_decide_eq_true z1, Nat.le_of_ble_eq_true z2⟩, oK_ok q rs rfl⟩
    · exact q.elim
  · exact q.elim
theorem ox_mod : OpX X F Wx (binaryOp .Mod) modW := by
  intro pins s τ H x y v u Q I rx ry ⟨ρ, M, a, b, rs, ra, rb, q⟩
  unfold modW at q
  split at q
  · cases (show x = .int _ from ra)
    cases (show y = .int _ from rb)
    split at q
    · rename_i hz
      exact op_modN pins s τ H _ _ v u Q I rx ry ⟨_, _, rfl, rfl, of_decide_eq_true hz, oK_ok q rs rfl⟩
    · exact q.elim
  · exact q.elim
theorem ox_pow : OpX X F Wx (binaryOp .Pow) powW := by
  intro pins s τ H x y v u Q I rx ry ⟨ρ, M, a, b, rs, ra, rb, q⟩
  unfold powW at q
  split at q
  · cases (show x = .int _ from ra)
    cases (show y = .int _ from rb)
    split at q
    · rename_i hz
      obtain ⟨z1, z2⟩ := Bool.and_eq_true_iff.mp hz
      obtain ⟨z2, z3⟩ := Bool.and_eq_true_iff.mp z2
      exact op_pow pins s τ H _ _ v u Q I rx ry ⟨_, _, rfl, rfl, ⟨of_decide_eq_true z1, of_decide_eq_true z2, Nat.le_of_ble_eq_true z3⟩, oK_ok q rs rfl⟩
    · exact q.elim
  · exact q.elim
theorem ox_none {f : Value → Value → Sem Value} : OpX X F Wx f (fun _ _ _ => .fail) := by
  intro pins s τ H x y v u Q I rx ry ⟨ρ, M, a, b, rs, ra, rb, q⟩
  exact (show False from q).elim
theorem ox_bin (hK : F.K = X.K) (fz : Bool) (op : Operator) : OpX X F Wx (binaryOp op) (binop fz op) := by
  cases op with
  | Add => exact ox_add hK fz
  | Sub => exact ox_sub
  | Mult => exact ox_mult hK fz
  | FloorDiv => exact ox_fdiv
  | Mod => exact ox_mod
  | Pow => exact ox_pow
  | _ => exact ox_none
end
end Mp
set_option Elab.async false
set_option linter.all false
set_option maxRecDepth 100000
set_option maxHeartbeats 2000000
namespace Mp
open PySem PySem.Spec PyProof.Rows L2 SeqAt

/-! ### keys -/
mutual
theorem keq_key : ∀ (a b : W) (n m : Nat), keyOk n a = true → keyOk m b = true → keq a b = NestedKey.beq a.key b.key
  | .non, b, n, m, _, h => by cases b <;> first | rfl | (cases m <;> cases h)
  | .bl x, b, n, m, _, h => by cases b <;> first | rfl | (cases m <;> cases h)
  | .int x, b, n, m, _, h => by cases b <;> first | rfl | (cases m <;> cases h)
  | .str x, b, n, m, _, h => by cases b <;> first | rfl | (cases m <;> cases h)
  | .tup xs, b, n, m, h1, h => by
    cases b with
    | tup ys =>
      cases n with
      | zero => cases h1
      | succ n =>
        cases m with
        | zero => cases h
        | succ m => exact keqs_key xs ys n m h1 h
    | non => rfl
    | bl _ => rfl
    | int _ => rfl
    | str _ => rfl
    | _ => cases m <;> cases h
  | .lst _, _, n, _, h, _ => by cases n <;> cases h
  | .dic _, _, n, _, h, _ => by cases n <;> cases h
  | .kv _ _, _, n, _, h, _ => by cases n <;> cases h
  | .ins _ _, _, n, _, h, _ => by cases n <;> cases h
  | .ref _, _, n, _, h, _ => by cases n <;> cases h
  | .clo _ _, _, n, _, h, _ => by cases n <;> cases h
theorem keqs_key : ∀ (xs ys : List W) (n m : Nat), keyOks n xs = true → keyOks m ys = true → keqs xs ys = NestedKey.beqAll (W.keys xs) (W.keys ys)
  | [], [], _, _, _, _ => rfl
  | [], _ :: _, _, _, _, _ => rfl
  | _ :: _, [], _, _, _, _ => rfl
  | x :: xs, y :: ys, n, m, h1, h2 => by
    obtain ⟨a1, a2⟩ := Bool.and_eq_true_iff.mp (show (keyOk n x && keyOks n xs) = true from h1)
    obtain ⟨b1, b2⟩ := Bool.and_eq_true_iff.mp (show (keyOk m y && keyOks m ys) = true from h2)
    show (keq x y && keqs xs ys) = (NestedKey.beq x.key y.key && NestedKey.beqAll (W.keys xs) (W.keys ys))
    rw [keq_key x y n m a1 b1, keqs_key xs ys n m a2 b2]
end
section
variable {F : Fx} {X : Cx} {pins : List (Addr × Obj)} {τ : L2.St} {H : Hp} {s : Shared} {ρ : List Addr}
mutual
/-- what may be a key stands as one -/
theorem nest (hK : F.K = X.K) (I : Inv X pins τ H s) : ∀ (w : W) (v : V) (u : Value) (n : Nat), Rp F ρ H w v → RelV v u → keyOk n w = true → NestedIs s.heap w.key u ∧ w.key.depth ≤ n
  | .non, v, u, n, r, ru, _ => by
    cases (show v = .non from r)
    cases ru
    exact ⟨.none, Nat.zero_le _⟩
  | .bl b, v, u, n, r, ru, _ => by
    cases (show v = .bl b from r)
    cases ru
    exact ⟨.bool (by cases b <;> rfl), Nat.zero_le _⟩
  | .int i, v, u, n, r, ru, _ => by
    cases (show v = .int i from r)
    obtain ⟨t, rfl⟩ := ru
    exact ⟨.int i t, Nat.zero_le _⟩
  | .str x, v, u, n, r, ru, _ => by
    cases (show v = .str x from r)
    obtain ⟨t, rfl⟩ := ru
    exact ⟨.text x t, Nat.zero_le _⟩
  | .tup ws, v, u, n, r, ru, h => by
    cases n with
    | zero => cases h
    | succ n =>
      obtain ⟨a, xs, rfl, h1, h2⟩ := r
      cases ru
      rw [hK] at h1
      obtain ⟨its, rv, ⟨o, ho, hc, k, hd⟩, _⟩ := I.tuple h1
      obtain ⟨p, q⟩ := nests hK I ws xs its n h2 rv h
      exact ⟨.tup ho hc hd (by simpa using p), Nat.succ_le_succ q⟩
  | .lst _, _, _, n, _, _, h => by cases n <;> cases h
  | .dic _, _, _, n, _, _, h => by cases n <;> cases h
  | .kv _ _, _, _, n, _, _, h => by cases n <;> cases h
  | .ins _ _, _, _, n, _, _, h => by cases n <;> cases h
  | .ref _, _, _, n, _, _, h => by cases n <;> cases h
  | .clo _ _, _, _, n, _, _, h => by cases n <;> cases h
theorem nests (hK : F.K = X.K) (I : Inv X pins τ H s) : ∀ (ws : List W) (vs : List V) (us : List Value) (n : Nat), Rps F ρ H ws vs → Vals vs us → keyOks n ws = true → NestedAll s.heap (W.keys ws) us ∧ NestedKey.depthAll (W.keys ws) ≤ n
  | [], vs, us, n, r, ru, _ => by
    cases (show vs = [] from r)
    cases ru
    exact ⟨.nil, Nat.zero_le _⟩
  | w :: ws, vs, us, n, r, ru, h => by
    obtain ⟨v, t, rfl, h1, h2⟩ := r
    cases ru with
    | cons r1 r2 =>
      obtain ⟨a1, a2⟩ := Bool.and_eq_true_iff.mp (show (keyOk n w && keyOks n ws) = true from h)
      obtain ⟨p1, q1⟩ := nest hK I w v _ n h1 r1 a1
      obtain ⟨p2, q2⟩ := nests hK I ws t _ n h2 r2 a2
      exact ⟨.cons p1 p2, Nat.max_le.mpr ⟨q1, q2⟩⟩
end
theorem keq_same (hK : F.K = X.K) (I : Inv X pins τ H s) {a b : W} {x : V} {v : Value} (ra : Rp F ρ H a x) (rb : Rp F ρ H b x) (rv : RelV x v) (ha : keyOk 8 a = true) (hb : keyOk 8 b = true) : keq a b = true := by
  rw [keq_key a b 8 8 ha hb, NestedIs.inj _ _ _ (nest hK I a x v 8 ra rv ha).1 (nest hK I b x v 8 rb rv hb).1]
  exact NestedKey.beq_self _
end
/-- == at the top of two keys -/
theorem rc_key {A : Around} {s : Shared} {x y : NestedKey} {a b : Value} (ra : NestedIs s.heap x a) (rb : NestedIs s.heap y b) (hx : x.depth ≤ 8) (hu : A.units + 9 < cLine) : RcAt A s a b (NestedKey.beq x y) ∧ RcNeAt A s a b (!NestedKey.beq x y) := by
  have hr : A.units < cLine := by omega
  cases ra with
  | none =>
    cases rb with
    | none => exact ⟨RcAt.none_none, RcNeAt.none_none⟩
    | bool e => exact ⟨RcAt.none_bool _, RcNeAt.none_bool _⟩
    | int z t => exact ⟨RcAt.none_int _ _, RcNeAt.none_int _ _⟩
    | text z t => exact ⟨RcAt.none_str _ _, RcNeAt.none_str _ _⟩
    | tup k1 k2 k3 k4 => exact ⟨RcAt.none_tuple ⟨_, k1, k2, _, k3⟩ hr, RcNeAt.none_tuple ⟨_, k1, k2, _, k3⟩ hr⟩
  | @bool c _ e =>
    subst e
    cases rb with
    | none => exact ⟨RcAt.bool_none _, RcNeAt.bool_none _⟩
    | @bool d _ e =>
      subst e
      exact ⟨by cases c <;> cases d <;> exact RcAt.bool_bool _ _, by cases c <;> cases d <;> exact RcNeAt.bool_bool _ _⟩
    | int z t => exact ⟨RcAt.bool_int _ _ _, RcNeAt.bool_int _ _ _⟩
    | text z t => exact ⟨RcAt.bool_str _ _ _, RcNeAt.bool_str _ _ _⟩
    | tup k1 k2 k3 k4 => exact ⟨RcAt.bool_tuple _ ⟨_, k1, k2, _, k3⟩ hr, RcNeAt.bool_tuple _ ⟨_, k1, k2, _, k3⟩ hr⟩
  | int z t =>
    cases rb with
    | none => exact ⟨RcAt.int_none _ _, RcNeAt.int_none _ _⟩
    | @bool d _ e =>
      subst e
      exact ⟨RcAt.int_bool _ _ _, RcNeAt.int_bool _ _ _⟩
    | int z' t' => exact ⟨RcAt.int_int _ _ _ _, RcNeAt.int_int _ _ _ _⟩
    | text z' t' => exact ⟨RcAt.int_str _ _ _ _, RcNeAt.int_str _ _ _ _⟩
    | tup k1 k2 k3 k4 => exact ⟨RcAt.int_tuple _ _ ⟨_, k1, k2, _, k3⟩ hr, RcNeAt.int_tuple _ _ ⟨_, k1, k2, _, k3⟩ hr⟩
  | text z t =>
    cases rb with
    | none => exact ⟨RcAt.str_none _ _, RcNeAt.str_none _ _⟩
    | @bool d _ e => exact ⟨RcAt.str_bool _ _ _, RcNeAt.str_bool _ _ _⟩
    | int z' t' => exact ⟨RcAt.str_int _ _ _ _, RcNeAt.str_int _ _ _ _⟩
    | text z' t' => exact ⟨RcAt.str_str _ _ _ _, RcNeAt.str_str _ _ _ _⟩
    | tup k1 k2 k3 k4 => exact ⟨RcAt.str_tuple _ _ ⟨_, k1, k2, _, k3⟩ hr, RcNeAt.str_tuple _ _ ⟨_, k1, k2, _, k3⟩ hr⟩
  | @tup l o vs n xs h1 h2 h3 h4 =>
    have hl : s.heap.IsTuple l vs := ⟨_, h1, h2, _, h3⟩
    cases rb with
    | none => exact ⟨RcAt.tuple_none hl hr, RcNeAt.tuple_none hl hr⟩
    | @bool d _ e => exact ⟨RcAt.tuple_bool _ hl hr, RcNeAt.tuple_bool _ hl hr⟩
    | int z' t' => exact ⟨RcAt.tuple_int _ _ hl hr, RcNeAt.tuple_int _ _ hl hr⟩
    | text z' t' => exact ⟨RcAt.tuple_str _ _ hl hr, RcNeAt.tuple_str _ _ hl hr⟩
    | @tup l' o' vs' n' ys k1 k2 k3 k4 =>
      have hl' : s.heap.IsTuple l' vs' := ⟨_, k1, k2, _, k3⟩
      have n1 : vs.size = xs.length := by simpa using NestedAll.length _ _ h4
      have n2 : vs'.size = ys.length := by simpa using NestedAll.length _ _ k4
      have hd : NestedKey.depthAll xs + 1 ≤ 8 := hx
      have it : ∀ j (j1 : j < vs.size) (j2 : j < vs'.size), EqAt A.in1 s vs[j] vs'[j] (keyEqAt xs ys j) := fun j j1 j2 => by
        have := eqAt_keys xs ys A.in1 s vs.toList vs'.toList h4 k4 (by
          have : min (NestedKey.depthAll xs) (NestedKey.depthAll ys) ≤ NestedKey.depthAll xs := Nat.min_le_left _ _
          show A.units + 1 + _ < cLine
          omega) j (by simpa using j1) (by simpa using j2)
        simpa using this
      show RcAt A s (.ref l) (.ref l') (NestedKey.beqAll xs ys) ∧ RcNeAt A s (.ref l) (.ref l') (!NestedKey.beqAll xs ys)
      rw [← beqAll_eq xs ys, ← n1, ← n2]
      exact ⟨RcAt.tuples hl hl' hr it, RcNeAt.tuples hl hl' hr it⟩

theorem oAnd_some {a b : Option Bool} {r : Bool} (h : oAnd a b = some r) : ∃ p q, a = some p ∧ b = some q ∧ r = (p && q) := by
  cases a with
  | none => cases h
  | some p =>
    cases b with
    | none => cases h
    | some q => exact ⟨p, q, rfl, rfl, (Option.some.inj h).symm⟩
/-- what all2 says, place by place -/
theorem all2_at {f : W → W → Option Bool} : ∀ {xs ys : List W} {r : Bool}, all2 f xs ys = some r → ∃ e : Nat → Bool, (∀ (j : Nat) (x y : W), xs[j]? = some x → ys[j]? = some y → f x y = some (e j)) ∧ r = (List.range xs.length).all e ∧ xs.length = ys.length
  | [], [], r, h => ⟨fun _ => true, fun j x y h => by simp at h, by cases h; rfl, rfl⟩
  | [], _ :: _, _, h => by cases h
  | _ :: _, [], _, h => by cases h
  | x :: xs, y :: ys, r, h => by
    obtain ⟨p, q, h1, h2, rfl⟩ := oAnd_some (show oAnd (f x y) (all2 f xs ys) = some r from h)
    obtain ⟨e, a, rfl, c⟩ := all2_at h2
    refine ⟨fun j => match j with | 0 => p | j + 1 => e j, fun j u v e1 e2 => ?_, ?_, by simp [c]⟩
    · cases j with
      | zero =>
        simp at e1 e2
        subst e1 e2
        exact h1
      | succ j => exact a j u v (by simpa using e1) (by simpa using e2)
    · rw [List.length_cons, List.range_succ_eq_map, List.all_cons, List.all_map]
      rfl
section
variable {F : Fx} {X : Cx} {pins : List (Addr × Obj)} {τ : L2.St} {H : Hp} {s : Shared} {ρ : List Addr}
theorem fzL_inj {a : Addr} {xs ys : List V} (h : FzL H a xs) (h' : FzL H a ys) : xs = ys := by
  obtain ⟨o, e⟩ := h
  obtain ⟨o', e'⟩ := h'
  rw [e] at e'
  cases e'
  rfl
theorem eqa_cases {n : Nat} {a b : W} {r : Bool} (h : eqa n a b = some r) : (∃ m xs ys, n = m + 1 ∧ a = .lst xs ∧ b = .lst ys ∧ (match decide (xs.length = ys.length) with | true => all2 (eqa m) xs ys | false => some false) = some r) ∨
    (match keyOk 8 a && keyOk 8 b with | true => some (keq a b) | false => none) = some r := by
  unfold eqa at h
  split at h
  · exact .inl ⟨_, _, _, rfl, rfl, rfl, h⟩
  · exact .inr h
theorem eqa_same (hK : F.K = X.K) (I : Inv X pins τ H s) : ∀ (n : Nat) (a b : W) (r : Bool) (x : V) (v : Value), eqa n a b = some r → Rp F ρ H a x → Rp F ρ H b x → RelV x v → r = true := by
  intro n
  induction n with
  | zero =>
    intro a b r x v h ra rb rv
    unfold eqa at h
    split at h
    · rename_i q
      obtain ⟨q1, q2⟩ := Bool.and_eq_true_iff.mp q
      rw [keq_same hK I ra rb rv q1 q2] at h
      exact (Option.some.inj h).symm
    · cases h
  | succ n ih =>
    intro a b r x v h ra rb rv
    rcases eqa_cases h with ⟨m, xs, ys, e, rfl, rfl, h⟩ | h
    · cases e
      obtain ⟨p, us, rfl, h1, h2⟩ := ra
      obtain ⟨p', vs, e', h3, h4⟩ := rb
      cases e'
      cases fzL_inj h1 h3
      have hl : xs.length = ys.length := by rw [← h2.length, ← h4.length]
      rw [decide_eq_true hl] at h
      obtain ⟨e, a1, rfl, _⟩ := all2_at h
      rw [List.all_eq_true]
      intro j hj
      have hj : j < xs.length := List.mem_range.mp hj
      have hj' : j < ys.length := by omega
      obtain ⟨u1, e1, r1⟩ := Rps.get h2 (List.getElem?_eq_getElem hj)
      obtain ⟨u2, e2, r2⟩ := Rps.get h4 (List.getElem?_eq_getElem hj')
      rw [e1] at e2
      cases e2
      obtain ⟨its, k, rv', he, _⟩ := lstR I h1.rd
      obtain ⟨z, _, rz⟩ := rv'.get e1
      exact ih _ _ _ u1 z (a1 j _ _ (List.getElem?_eq_getElem hj) (List.getElem?_eq_getElem hj')) r1 r2 rz
    · split at h
      · rename_i q
        obtain ⟨q1, q2⟩ := Bool.and_eq_true_iff.mp q
        rw [keq_same hK I ra rb rv q1 q2] at h
        exact (Option.some.inj h).symm
      · cases h
/-- the items of two lists -/
theorem items_at {f : W → W → Option Bool} {xs ys : List W} {us vs : List V} {is js : List Value} {e : Nat → Bool} {T : Value → Value → Bool → Prop} (h2 : Rps F ρ H xs us) (h4 : Rps F ρ H ys vs) (r1 : Vals us is) (r2 : Vals vs js)
    (a1 : ∀ (j : Nat) (x y : W), xs[j]? = some x → ys[j]? = some y → f x y = some (e j))
    (ih : ∀ (a b : W) (r : Bool) (x y : V) (v u : Value), f a b = some r → Rp F ρ H a x → Rp F ρ H b y → RelV x v → RelV y u → T v u r) :
    ∀ j (j1 : j < is.toArray.size) (j2 : j < js.toArray.size), T is.toArray[j] js.toArray[j] (e j) := fun j j1 j2 => by
  have k1 : j < is.length := by simpa using j1
  have k2 : j < js.length := by simpa using j2
  have l1 : j < xs.length := by rw [← h2.length, r1.length]; exact k1
  have l2 : j < ys.length := by rw [← h4.length, r2.length]; exact k2
  obtain ⟨x, e1, p1⟩ := Rps.get h2 (List.getElem?_eq_getElem l1)
  obtain ⟨y, e2, p2⟩ := Rps.get h4 (List.getElem?_eq_getElem l2)
  obtain ⟨v, e3, p3⟩ := r1.get e1
  obtain ⟨u, e4, p4⟩ := r2.get e2
  have e3 : is[j] = v := Option.some.inj ((List.getElem?_eq_getElem k1).symm.trans e3)
  have e4 : js[j] = u := Option.some.inj ((List.getElem?_eq_getElem k2).symm.trans e4)
  show T is[j] js[j] (e j)
  rw [e3, e4]
  exact ih _ _ _ x y v u (a1 j _ _ (List.getElem?_eq_getElem l1) (List.getElem?_eq_getElem l2)) p1 p2 p3 p4
theorem eqa_at (hK : F.K = X.K) (I : Inv X pins τ H s) : ∀ (n : Nat) (A : Around), A.units + (10 + n) < cLine → ∀ (a b : W) (r : Bool) (x y : V) (v u : Value), eqa n a b = some r → Rp F ρ H a x → Rp F ρ H b y → RelV x v → RelV y u → EqAt A s v u r := by
  have leaf : ∀ (A : Around), A.units + 10 < cLine → ∀ (a b : W) (r : Bool) (x y : V) (v u : Value), (match keyOk 8 a && keyOk 8 b with | true => some (keq a b) | false => none) = some r → Rp F ρ H a x → Rp F ρ H b y → RelV x v → RelV y u → EqAt A s v u r := by
    intro A hu a b r x y v u h ra rb rv ru
    split at h
    · rename_i q
      obtain ⟨q1, q2⟩ := Bool.and_eq_true_iff.mp q
      obtain ⟨n1, d1⟩ := nest hK I a x v 8 ra rv q1
      obtain ⟨n2, d2⟩ := nest hK I b y u 8 rb ru q2
      have e := Option.some.inj h
      rw [← e, keq_key a b 8 8 q1 q2]
      exact eqAt_key _ _ A s v u n1 n2 (by
        have : min a.key.depth b.key.depth ≤ a.key.depth := Nat.min_le_left _ _
        omega)
    · cases h
  intro n
  induction n with
  | zero =>
    intro A hu a b r x y v u h ra rb rv ru
    unfold eqa at h
    exact leaf A hu a b r x y v u h ra rb rv ru
  | succ n ih =>
    intro A hu a b r x y v u h ra rb rv ru
    have h0 := h
    rcases eqa_cases h with ⟨m, xs, ys, e, rfl, rfl, h⟩ | h
    · cases e
      obtain ⟨p, us, rfl, h1, h2⟩ := id ra
      obtain ⟨q, vs, rfl, h3, h4⟩ := id rb
      cases rv
      cases ru
      by_cases hpq : p = q
      · subst hpq
        rw [eqa_same hK I _ _ _ _ _ _ h0 ra rb rfl]
        exact EqAt.same _
      · obtain ⟨is, k1, r1, e1, _⟩ := lstR I h1.rd
        obtain ⟨js, k2, r2, e2, _⟩ := lstR I h3.rd
        have l1 : s.heap.IsList p is.toArray := ⟨_, e1, rfl, _, rfl⟩
        have l2 : s.heap.IsList q js.toArray := ⟨_, e2, rfl, _, rfl⟩
        have hx : is.length = xs.length := by rw [← r1.length, h2.length]
        have hy : js.length = ys.length := by rw [← r2.length, h4.length]
        split at h
        · rename_i q
          have q := of_decide_eq_true q
          obtain ⟨e, a1, rfl, _⟩ := all2_at h
          refine EqAt.of_refs hpq ?_
          have := RcAt.lists (A := A) (e := e) l1 l2 (by simp; omega) (by omega) (items_at (T := fun v u r => EqAt A.in1 s v u r) h2 h4 r1 r2 a1 fun a b r x y v u => ih A.in1 (by show A.units + 1 + _ < _; omega) a b r x y v u)
          simpa [hx] using this
        · rename_i q
          have q := of_decide_eq_false q
          cases h
          exact EqAt.of_refs hpq (RcAt.lists_lengths l1 l2 (by simp; omega) (by omega))
    · exact leaf A (by omega) a b r x y v u h ra rb rv ru
/-- == and != at the top, data without dicts -/
theorem eqa_rc (hK : F.K = X.K) (I : Inv X pins τ H s) {n : Nat} {A : Around} (hu : A.units + (12 + n) < cLine) {a b : W} {r : Bool} {x y : V} {v u : Value} (h : eqa n a b = some r) (ra : (∃ p us xs, a = .lst us ∧ x = .ref p ∧ Rd H p (.lst xs) ∧ Rps F ρ H us xs) ∨ Rp F ρ H a x)
    (rb : (∃ p us xs, b = .lst us ∧ y = .ref p ∧ Rd H p (.lst xs) ∧ Rps F ρ H us xs) ∨ Rp F ρ H b y) (rv : RelV x v) (ru : RelV y u) : RcAt A s v u r ∧ RcNeAt A s v u (!r) := by
  have lst : ∀ {a : W} {x : V} {us : List W}, a = .lst us → ((∃ p us xs, a = .lst us ∧ x = .ref p ∧ Rd H p (.lst xs) ∧ Rps F ρ H us xs) ∨ Rp F ρ H a x) → ∃ p xs, x = .ref p ∧ Rd H p (.lst xs) ∧ Rps F ρ H us xs := by
    intro a x us e h
    subst e
    rcases h with ⟨p, us', xs, e, h1, h2, h3⟩ | ⟨p, xs, e, h1, h2⟩
    · cases e
      exact ⟨p, xs, h1, h2, h3⟩
    · exact ⟨p, xs, e, h1.rd, h2⟩
  have leaf : (match keyOk 8 a && keyOk 8 b with | true => some (keq a b) | false => none) = some r → RcAt A s v u r ∧ RcNeAt A s v u (!r) := by
    intro h
    split at h
    · rename_i q
      obtain ⟨q1, q2⟩ := Bool.and_eq_true_iff.mp q
      have ra : Rp F ρ H a x := ra.resolve_left fun ⟨_, _, _, e, _⟩ => by rw [e] at q1; cases q1
      have rb : Rp F ρ H b y := rb.resolve_left fun ⟨_, _, _, e, _⟩ => by rw [e] at q2; cases q2
      obtain ⟨n1, d1⟩ := nest hK I a x v 8 ra rv q1
      obtain ⟨n2, d2⟩ := nest hK I b y u 8 rb ru q2
      have e := Option.some.inj h
      rw [← e, keq_key a b 8 8 q1 q2]
      exact rc_key n1 n2 d1 (by omega)
    · cases h
  rcases eqa_cases h with ⟨m, xs, ys, rfl, rfl, rfl, h'⟩ | h'
  · obtain ⟨p, us, rfl, h1, h2⟩ := lst rfl ra
    obtain ⟨q, vs, rfl, h3, h4⟩ := lst rfl rb
    cases rv
    cases ru
    obtain ⟨is, k1, r1, e1, _⟩ := lstR I h1
    obtain ⟨js, k2, r2, e2, _⟩ := lstR I h3
    have l1 : s.heap.IsList p is.toArray := ⟨_, e1, rfl, _, rfl⟩
    have l2 : s.heap.IsList q js.toArray := ⟨_, e2, rfl, _, rfl⟩
    have hx : is.length = xs.length := by rw [← r1.length, h2.length]
    have hy : js.length = ys.length := by rw [← r2.length, h4.length]
    split at h'
    · rename_i q
      have q := of_decide_eq_true q
      obtain ⟨e, a1, rfl, _⟩ := all2_at h'
      have it := items_at (T := fun v u r => EqAt A.in1 s v u r) h2 h4 r1 r2 a1 fun a b r x y v u => eqa_at hK I m A.in1 (by show A.units + 1 + _ < _; omega) a b r x y v u
      have t1 := RcAt.lists (A := A) (e := e) l1 l2 (by simp; omega) (by omega) it
      have t2 := RcNeAt.lists (A := A) (e := e) l1 l2 (by simp; omega) (by omega) it
      rw [List.size_toArray, hx] at t1 t2
      exact ⟨t1, t2⟩
    · rename_i q
      have q := of_decide_eq_false q
      cases h'
      exact ⟨RcAt.lists_lengths l1 l2 (by simp; omega) (by omega), RcNeAt.lists_lengths l1 l2 (by simp; omega) (by omega)⟩
  · exact leaf h'
end
end Mp
set_option Elab.async false
set_option linter.all false
set_option maxRecDepth 100000
set_option maxHeartbeats 2000000
namespace Mp
open PySem PySem.Spec PyProof.Rows L2 SeqAt

/-- the keys of a dict's entries -/
def KeysAt (w : World) (h : Heap) (ds : List DictEntry) (ks : List NestedKey) : Prop :=
  ks.length = ds.length ∧ ∀ (i : Nat) (e : DictEntry), ds[i]? = some e → ∃ k, ks[i]? = some k ∧ NestedIs h k e.key ∧ k.depth ≤ 8 ∧ e.hash = k.hash w
theorem isStr_of {h : Heap} {k : NestedKey} {v : Value} {x : Str} (n : NestedIs h k v) (e : isExactStrKey v = true) : v.isStr x = decide (k = .text x) := by
  cases n with
  | text y t =>
    show (y == x) = decide (NestedKey.text y = .text x)
    by_cases h : y = x
    · subst h
      simp
    · rw [decide_eq_false (fun z => h (by cases z; rfl))]
      exact beq_eq_false_iff_ne.mpr h
  | _ => cases e
theorem beq_true_iff {a b : NestedKey} : NestedKey.beq a b = decide (a = b) := (NestedKey.decide_eq a b).symm
section
variable {P : Program} {w : World} {A : Around} {E : Value → Shared → Prop} {s : Shared} {d : Addr} {ds : List DictEntry} {ep : Nat} {ks : List NestedKey} {k : NestedKey} {key : Value} {Q : Option Nat → Shared → Prop}
theorem KeysAt.eq (hu : A.units + 10 < cLine) (hkey : NestedIs s.heap k key) (hk : KeysAt w s.heap ds ks) {i : Nat} {e : DictEntry} {k' : NestedKey} (h1 : ds[i]? = some e) (h2 : ks[i]? = some k') (Q' : Bool → Shared → Prop) (hq : Q' (decide (k' = k)) s) : wpAny (model P w) A (eqBool e.key key) Q' E s := by
  obtain ⟨k2, h3, n1, d1, _⟩ := hk.2 i e h1
  rw [h2] at h3
  cases h3
  exact eqAt_key k' k A s e.key key n1 hkey (by
    have : min k'.depth k.depth ≤ k'.depth := Nat.min_le_left _ _
    omega) _ _ _ _ (by rw [← NestedKey.decide_eq]; exact hq)
theorem KeysAt.hash {h : Heap} (hk : KeysAt w h ds ks) {i : Nat} {e : DictEntry} {k' : NestedKey} (h1 : ds[i]? = some e) (h2 : ks[i]? = some k') : e.hash = k'.hash w := by
  obtain ⟨k2, h3, _, _, h4⟩ := hk.2 i e h1
  rw [h2] at h3
  cases h3
  exact h4
theorem KeysAt.pair {h : Heap} (hk : KeysAt w h ds ks) {i : Nat} (hi : i < ds.length) : ∃ k', ks[i]? = some k' := ⟨_, List.getElem?_eq_getElem (by rw [hk.1]; exact hi)⟩
/-- the places looked at: those of the hash -/
abbrev atH (ds : List DictEntry) (h : Int) (i : Nat) : Bool := (ds.toArray[i]?.map (·.hash)) == some h
theorem KeysAt.at_hash {h : Heap} (hk : KeysAt w h ds ks) {i : Nat} (e : ks[i]? = some k) : atH ds (k.hash w) i = true := by
  have hi : i < ds.length := by rw [← hk.1]; exact (List.getElem?_eq_some_iff.mp e).1
  have := hk.hash (List.getElem?_eq_getElem hi) e
  unfold atH
  rw [show ds.toArray[i]? = some ds[i] by simp [List.getElem?_eq_getElem hi], Option.map_some, this]
  simp
/-- all keys by value: the first that is equal -/
theorem plain_any (hu : A.units + 10 < cLine) (hkey : NestedIs s.heap k key) (ho : s.heap.get? d = some (dObj ds ep)) (hk : KeysAt w s.heap ds ks) (hn : ks.Nodup)
    (hnone : (∀ j : Nat, ks[j]? ≠ some k) → Q none s) (hsome : ∀ j : Nat, ks[j]? = some k → Q (some j) s) :
    wpAny (model P w) A (dictWalkPlain d key (k.hash w) ds.toArray (placesWithHash ds.toArray.size (fun i => ds.toArray[i]?.map (·.hash)) (k.hash w))) Q E s := by
  have hd : (dObj ds ep).data = .dict ds.toArray ep := rfl
  unfold dictWalkPlain
  refine wpAny_bind ?_
  refine wpAny_forIn_list _ (fun rest b s' => s' = s ∧ b = (none, ()) ∧ ∃ i, rest = (List.range' i (ds.toArray.size - i)).filter (atH ds (k.hash w)) ∧ i ≤ ds.toArray.size ∧ ∀ j, j < i → ks[j]? ≠ some k) _ ?_ ?_ _ _
    ⟨rfl, rfl, 0, by rw [placesWithHash, List.range_eq_range', Nat.sub_zero], Nat.zero_le _, fun _ h => absurd h (Nat.not_lt_zero _)⟩
  · rintro x rest b s' ⟨rfl, rfl, i, hr, hi, hno⟩
    obtain ⟨hix, hxn, hpx, hskip, hrest⟩ := filter_range'_cons _ _ _ _ _ hr.symm
    have hlt : x < ds.length := by simp at hxn hi; omega
    have hex : ds.toArray[x]? = some ds[x] := by simp [List.getElem?_eq_getElem hlt]
    obtain ⟨k', hk'⟩ := hk.pair hlt
    have hh : (ds[x].hash == k.hash w) = true := by
      unfold atH at hpx
      rw [hex] at hpx
      simpa using hpx
    have hnx : ∀ j, j < x → ks[j]? ≠ some k := fun j hj e => by
      rcases Nat.lt_or_ge j i with h | h
      · exact hno j h e
      · have := hskip j h hj
        rw [hk.at_hash e] at this
        cases this
    rw [hex]
    dsimp only
    rw [if_pos hh]
    refine wpAny_bind (wpAny_dictEpoch ho hd (wpAny_bind (hk.eq hu hkey (List.getElem?_eq_getElem hlt) hk' _ (wpAny_bind (wpAny_dictEpoch ho hd ?_)))))
    show wpAny _ _ (if (ep != ep) = true then _ else _) _ E _
    rw [if_neg (by simp)]
    by_cases hkk : k' = k
    · subst hkk
      simp only [decide_true, if_true]
      exact wpAny_bind (wpAny_rule (wpAny_pure (wpAny_pure (hsome x hk'))))
    · rw [decide_eq_false hkk]
      simp only [Bool.false_eq_true, if_false]
      refine wpAny_bind (wpAny_rule (wpAny_pure ⟨rfl, rfl, x + 1, ?_, by simp; omega, fun j hj e => ?_⟩))
      · rw [hrest]
        congr 2
        simp at hi ⊢
        omega
      · rcases Nat.lt_or_ge j x with h | h
        · exact hnx j h e
        · have : j = x := by omega
          subst this
          rw [hk'] at e
          exact hkk (Option.some.inj e)
  · rintro b s' ⟨rfl, rfl, i, hr, hi, hno⟩
    refine wpAny_pure (hnone fun j e => ?_)
    rcases Nat.lt_or_ge j i with h | h
    · exact hno j h e
    · have hj : j < ds.length := by rw [← hk.1]; exact (List.getElem?_eq_some_iff.mp e).1
      have := List.filter_eq_nil_iff.mp hr.symm j (List.mem_range'_1.mpr ⟨h, by simp; omega⟩)
      exact this (hk.at_hash e)
/-- asking tells nothing -/
theorem tells_any {stored : List Value} {Q : Bool → Shared → Prop} (hkey : NestedIs s.heap k key) (hdep : k.depth ≤ 8) (hst : ∀ v ∈ stored, ∃ k', NestedIs s.heap k' v ∧ k'.depth ≤ 8) (h : Q false s) :
    wpAny (model P w) A (tableMayTell key stored) Q E s := by
  unfold tableMayTell
  split
  · exact wpAny_pure h
  · refine wpAny_bind (quiet_key k key 8 s hkey hdep A E _ ?_)
    simp only [Bool.not_true, Bool.false_eq_true, if_false]
    refine wpAny_bind ?_
    refine wpAny_forIn_list _ (fun rest r s' => s' = s ∧ r = (none, ()) ∧ ∀ v ∈ rest, ∃ k', NestedIs s.heap k' v ∧ k'.depth ≤ 8) _ ?_ ?_ _ _ ⟨rfl, rfl, hst⟩
    · rintro x rest r s' ⟨rfl, rfl, hr⟩
      obtain ⟨k', hb, hd⟩ := hr x List.mem_cons_self
      refine wpAny_bind (quiet_key k' x 8 s' hb hd A E _ ?_)
      simp only [Bool.not_true, Bool.false_eq_true, if_false]
      exact wpAny_pure ⟨rfl, rfl, fun v hv => hr v (List.mem_cons_of_mem _ hv)⟩
    · rintro r s' ⟨rfl, rfl, _⟩
      exact wpAny_pure h
theorem wpAny_iteB {α : Type} {c : Prop} {ci : Decidable c} {x y : Sem α} {R : α → Shared → Prop} {E2 : Value → Shared → Prop} {s2 : Shared} (h1 : c → wpAny (model P w) A x R E2 s2) (h2 : ¬ c → wpAny (model P w) A y R E2 s2) : wpAny (model P w) A (if c then x else y) R E2 s2 := by
  by_cases h : c
  · rw [if_pos h]; exact h1 h
  · rw [if_neg h]; exact h2 h
/-- the look-up -/
theorem find_any (hu : A.units + 10 < cLine) (hkey : NestedIs s.heap k key) (hdep : k.depth ≤ 8) (ho : s.heap.get? d = some (dObj ds ep)) (hk : KeysAt w s.heap ds ks) (hn : ks.Nodup)
    (hnone : (∀ j : Nat, ks[j]? ≠ some k) → Q none s) (hsome : ∀ j : Nat, ks[j]? = some k → Q (some j) s) : wpAny (model P w) A (dictFind d key (k.hash w)) Q E s := by
  have hd : (dObj ds ep).data = .dict ds.toArray ep := rfl
  by_cases hstr : (∃ x t, key = .str x t) ∧ (ds.toArray.all fun e => isExactStrKey e.key) = true
  · obtain ⟨⟨x, t, rfl⟩, hall⟩ := hstr
    have hkx : k = .text x := by cases hkey; rfl
    refine KTD.kt_dictFind_strs ho hd hall ?_
    cases hf : ds.toArray.findIdx? (fun e => e.key.isStr x) with
    | none =>
      refine hnone fun j hj => ?_
      have hi : j < ds.length := by rw [← hk.1]; exact (List.getElem?_eq_some_iff.mp hj).1
      obtain ⟨k2, h3, n1, _, _⟩ := hk.2 j ds[j] (List.getElem?_eq_getElem hi)
      rw [hj] at h3
      cases h3
      have hm : ds[j] ∈ ds.toArray := by simp
      have := Array.findIdx?_eq_none_iff.mp hf ds[j] hm
      rw [isStr_of n1 ((Array.all_eq_true'.mp hall) _ hm), hkx] at this
      simp at this
    | some j =>
      obtain ⟨hlt, hi, _⟩ := Array.findIdx?_eq_some_iff_getElem.mp hf
      have hi' : j < ds.length := by simpa using hlt
      obtain ⟨k2, h3, n1, _, _⟩ := hk.2 j ds[j] (List.getElem?_eq_getElem hi')
      have hm : ds[j] ∈ ds.toArray := by simp
      have e : ds.toArray[j] = ds[j] := by simp
      rw [e, isStr_of n1 ((Array.all_eq_true'.mp hall) _ hm)] at hi
      exact hsome j (by rw [h3, of_decide_eq_true hi, hkx])
  · have hst : ∀ v ∈ (placesWithHash ds.toArray.size (fun i => ds.toArray[i]?.map (·.hash)) (k.hash w)).filterMap (fun i => ds.toArray[i]?.map (·.key)), ∃ k', NestedIs s.heap k' v ∧ k'.depth ≤ 8 := by
      intro v hv
      obtain ⟨i, _, hi⟩ := List.mem_filterMap.mp hv
      cases hei : ds.toArray[i]? with
      | none => rw [hei] at hi; cases hi
      | some e =>
        rw [hei] at hi
        obtain rfl : e.key = v := by simpa using hi
        obtain ⟨k', _, n1, d1, _⟩ := hk.2 i e (by simpa using hei)
        exact ⟨k', n1, d1⟩
    have hany : ∀ a, key = .ref a → ¬ (ds.toArray.any fun e => e.key == Value.ref a && e.hash != k.hash w) = true := by
      rintro a rfl
      rw [← Array.any_toList, List.any_eq_true]
      rintro ⟨e, hin, hc⟩
      simp only [Bool.and_eq_true, beq_iff_eq, bne_iff_ne, ne_eq] at hc
      obtain ⟨he, hne⟩ := hc
      obtain ⟨i, hi⟩ := List.mem_iff_getElem?.mp hin
      have hi : ds[i]? = some e := by simpa using hi
      obtain ⟨k', _, n1, _, h4⟩ := hk.2 i e hi
      rw [he] at n1
      rw [NestedIs.inj _ _ _ n1 hkey] at h4
      exact hne h4
    have huniq : ∀ {i j : Nat}, ks[i]? = some k → ks[j]? = some k → i = j := fun {i j} h1 h2 => (List.getElem?_inj (List.getElem?_eq_some_iff.mp h1).1 hn).mp (h1.trans h2.symm)
    have hstr' : ∀ x t, key = .str x t → ¬ (ds.toArray.all fun e => isExactStrKey e.key) = true := fun x t e h => hstr ⟨⟨x, t, e⟩, h⟩
    have loop : ∀ (stored : List Value) (tells : Bool), tells = false → stored = (placesWithHash ds.toArray.size (fun i => ds.toArray[i]?.map (·.hash)) (k.hash w)).filterMap (fun i => ds.toArray[i]?.map (·.key)) →
        wpAny (model P w) A (do
          let mut hit : Option Nat := none
          for i in placesWithHash ds.toArray.size (fun i => ds.toArray[i]?.map (·.hash)) (k.hash w) do
            if let some e := ds.toArray[i]? then
              if e.hash == k.hash w then
                let before ← dictEpoch d (keyPart key)
                let same ← eqBool e.key key
                if (← dictEpoch d (keyPart key)) != before then unsupported "dict.changed-during-lookup"
                if same then
                  if hit.isSome then unsupported "dict.find:order-among-keys-of-one-hash"
                  rule "dict.find.hit"
                  if stored.length < 2 then return some i
                  hit := some i
                else
                  rule "dict.find.same-hash-other-key"
                  if tells && !(0 ≤ k.hash w && k.hash w < 32) then unsupported "dict.find:asked-again-or-not-hangs-on-the-table"
          return hit) Q E s := by
      intro stored tells ht _
      subst ht
      refine wpAny_bind ?_
      refine wpAny_forIn_list _ (fun rest b s' => s' = s ∧ ∃ i hit, b = (none, hit) ∧ rest = (List.range' i (ds.toArray.size - i)).filter (atH ds (k.hash w)) ∧ i ≤ ds.toArray.size ∧
          ((hit = none ∧ ∀ j, j < i → ks[j]? ≠ some k) ∨ ∃ j, hit = some j ∧ j < i ∧ ks[j]? = some k)) _ ?_ ?_ _ _
        ⟨rfl, 0, none, rfl, by rw [placesWithHash, List.range_eq_range', Nat.sub_zero], Nat.zero_le _, .inl ⟨rfl, fun _ h => absurd h (Nat.not_lt_zero _)⟩⟩
      · rintro x rest b s' ⟨rfl, i, hit, rfl, hr, hi, hH⟩
        obtain ⟨hix, hxn, hpx, hskip, hrest⟩ := filter_range'_cons _ _ _ _ _ hr.symm
        have hlt : x < ds.length := by simp at hxn hi; omega
        have hex : ds.toArray[x]? = some ds[x] := by simp [List.getElem?_eq_getElem hlt]
        obtain ⟨k', hk'⟩ := hk.pair hlt
        have hh : (ds[x].hash == k.hash w) = true := by
          unfold atH at hpx
          rw [hex] at hpx
          simpa using hpx
        have hrest' : rest = (List.range' (x + 1) (ds.toArray.size - (x + 1))).filter (atH ds (k.hash w)) := by
          rw [hrest]
          congr 2
          simp at hi ⊢
          omega
        have hHx : (hit = none ∧ ∀ j, j < x → ks[j]? ≠ some k) ∨ ∃ j, hit = some j ∧ j < x ∧ ks[j]? = some k := by
          rcases hH with ⟨h0, hno⟩ | ⟨j, h1, hji, hj⟩
          · refine .inl ⟨h0, fun j hj e => ?_⟩
            rcases Nat.lt_or_ge j i with h | h
            · exact hno j h e
            · have := hskip j h hj
              rw [hk.at_hash e] at this
              cases this
          · exact .inr ⟨j, h1, by omega, hj⟩
        rw [hex]
        dsimp only
        rw [if_pos hh]
        refine wpAny_bind (wpAny_dictEpoch ho hd (wpAny_bind (hk.eq hu hkey (List.getElem?_eq_getElem hlt) hk' _ (wpAny_bind (wpAny_dictEpoch ho hd ?_)))))
        show wpAny _ _ (if (ep != ep) = true then _ else _) _ E _
        rw [if_neg (by simp)]
        by_cases hkk : k' = k
        · subst hkk
          simp only [decide_true, if_true]
          rcases hHx with ⟨rfl, _⟩ | ⟨j, _, hjx, hj⟩
          · simp only [Option.isSome_none, Bool.false_eq_true, if_false]
            refine wpAny_bind (wpAny_rule ?_)
            split
            · exact wpAny_pure (wpAny_pure (hsome x hk'))
            · exact wpAny_pure ⟨rfl, x + 1, some x, rfl, hrest', by simp; omega, .inr ⟨x, rfl, Nat.lt_succ_self x, hk'⟩⟩
          · exact absurd (huniq hj hk') (by omega)
        · rw [decide_eq_false hkk]
          simp only [Bool.false_eq_true, if_false, Bool.false_and]
          refine wpAny_bind (wpAny_rule (wpAny_pure ⟨rfl, x + 1, hit, rfl, hrest', by simp; omega, ?_⟩))
          rcases hHx with ⟨h0, hno⟩ | ⟨j, h1, hjx, hj⟩
          · refine .inl ⟨h0, fun j hj e => ?_⟩
            rcases Nat.lt_or_ge j x with h | h
            · exact hno j h e
            · have : j = x := by omega
              subst this
              rw [hk'] at e
              exact hkk (Option.some.inj e)
          · exact .inr ⟨j, h1, by omega, hj⟩
      · rintro b s' ⟨rfl, i, hit, rfl, hr, hi, hH⟩
        rcases hH with ⟨rfl, hno⟩ | ⟨j, rfl, _, hj⟩
        · refine wpAny_pure (hnone fun j e => ?_)
          rcases Nat.lt_or_ge j i with h | h
          · exact hno j h e
          · have hj : j < ds.length := by rw [← hk.1]; exact (List.getElem?_eq_some_iff.mp e).1
            have := List.filter_eq_nil_iff.mp hr.symm j (List.mem_range'_1.mpr ⟨h, by simp; omega⟩)
            exact this (hk.at_hash e)
        · exact wpAny_pure (hsome j hj)
    have fin : wpAny (model P w) A (if (key :: (placesWithHash ds.toArray.size (fun i => ds.toArray[i]?.map (·.hash)) (k.hash w)).filterMap (fun i => ds.toArray[i]?.map (·.key))).all carriedByValue = true then
        dictWalkPlain d key (k.hash w) ds.toArray (placesWithHash ds.toArray.size (fun i => ds.toArray[i]?.map (·.hash)) (k.hash w)) else (do
          let stored := (placesWithHash ds.toArray.size (fun i => ds.toArray[i]?.map (·.hash)) (k.hash w)).filterMap (fun i => ds.toArray[i]?.map (·.key))
          let tells ← if stored == [key] then pure false else tableMayTell key stored
          if tells && stored.length ≥ 2 then unsupported "dict.find:order-among-keys-of-one-hash"
          let mut hit : Option Nat := none
          for i in placesWithHash ds.toArray.size (fun i => ds.toArray[i]?.map (·.hash)) (k.hash w) do
            if let some e := ds.toArray[i]? then
              if e.hash == k.hash w then
                let before ← dictEpoch d (keyPart key)
                let same ← eqBool e.key key
                if (← dictEpoch d (keyPart key)) != before then unsupported "dict.changed-during-lookup"
                if same then
                  if hit.isSome then unsupported "dict.find:order-among-keys-of-one-hash"
                  rule "dict.find.hit"
                  if stored.length < 2 then return some i
                  hit := some i
                else
                  rule "dict.find.same-hash-other-key"
                  if tells && !(0 ≤ k.hash w && k.hash w < 32) then unsupported "dict.find:asked-again-or-not-hangs-on-the-table"
          return hit)) Q E s := by
      split
      · exact plain_any hu hkey ho hk hn hnone hsome
      · dsimp only
        refine wpAny_iteB (fun _ => wpAny_bind (wpAny_pure ?_)) (fun _ => wpAny_bind (tells_any hkey hdep hst ?_))
        all_goals
          rw [Bool.false_and, if_neg Bool.false_ne_true]
          exact loop _ false rfl rfl
    unfold dictFind
    try with_reducible refine wpAny_holding ?_
    refine wpAny_bind (wpAny_dictEntries ho hd ?_)
    dsimp only
    cases key with
    | str x t =>
      dsimp only
      rw [if_neg (hstr' x t rfl)]
      exact fin
    | ref a =>
      dsimp only at fin ⊢
      rw [if_neg (hany a rfl)]
      exact fin
    | _ => exact fin
end
end Mp
set_option Elab.async false
set_option linter.all false
set_option maxRecDepth 100000
set_option maxHeartbeats 2000000
namespace Mp
open PySem PySem.Spec PyProof.Rows L2 SeqAt

structure DA (w : World) (h : Heap) (d : Addr) (ds : List DictEntry) (ks : List NestedKey) : Prop where
  ob : ∃ ep, h.get? d = some (dObj ds ep)
  at_ : KeysAt w h ds ks
  nd : ks.Nodup
section
variable {P : Program} {w : World} {A : Around} {E : Value → Shared → Prop} {s : Shared} {d : Addr} {ds : List DictEntry} {ks : List NestedKey} {k : NestedKey} {key : Value}
theorem DA.ty (D : DA w s.heap d ds ks) : s.TypeIs (.ref d) "dict" := let ⟨ep, h⟩ := D.ob; ⟨_, h, rfl⟩
theorem get_any (hu : A.units + 20 < cLine) (hkey : NestedIs s.heap k key) (hdep : k.depth ≤ 8) (D : DA w s.heap d ds ks) {Q : Option Value → Shared → Prop}
    (hnone : (∀ j : Nat, ks[j]? ≠ some k) → ∀ tk, Q none { s with toks := tk }) (hsome : ∀ (j : Nat) (e : DictEntry), ks[j]? = some k → ds[j]? = some e → ∀ tk, Q (some e.val) { s with toks := tk }) : wpAny (model P w) A (dictGet d key) Q E s := by
  obtain ⟨⟨ep, ho⟩, hk, hn⟩ := D
  unfold dictGet
  try with_reducible refine wpAny_holding ?_
  refine wpAny_bind (pyHash_key k key A s _ hkey (by omega) (wpAny_bind (find_any (s := { s with toks := s.toks + k.draws }) (by omega) hkey hdep ho hk hn ?_ ?_)))
  · exact fun hno => wpAny_pure (hnone hno _)
  · intro j hj
    refine wpAny_bind (wpAny_dictEntries (s := { s with toks := s.toks + k.draws }) ho rfl ?_)
    have hi : j < ds.length := by rw [← hk.1]; exact (List.getElem?_eq_some_iff.mp hj).1
    rw [show ds.toArray[j]? = some ds[j] by simp [List.getElem?_eq_getElem hi]]
    exact wpAny_pure (hsome j _ hj (List.getElem?_eq_getElem hi) _)
/-- the entries behind a store -/
def setD (w : World) (ks : List NestedKey) (k : NestedKey) (key v : Value) (ds ds' : List DictEntry) : Prop :=
  ((∀ j : Nat, ks[j]? ≠ some k) ∧ ds' = ds ++ [⟨k.hash w, key, v⟩]) ∨ ∃ j e, ks[j]? = some k ∧ ds[j]? = some e ∧ ds' = ds.set j { e with val := v }
theorem set_any (hu : A.units + 20 < cLine) (hkey : NestedIs s.heap k key) (hdep : k.depth ≤ 8) (D : DA w s.heap d ds ks) (hz : ds.length ≤ sizeLine) {v : Value} {Q : Unit → Shared → Prop}
    (hQ : ∀ ds' ep h' tk, setD w ks k key v ds ds' → h'.get? d = some (dObj ds' ep) → Heap.SameBut d s.heap h' → Q () { s with heap := h', toks := tk }) : wpAny (model P w) A (dictSet d key v) Q E s := by
  obtain ⟨⟨ep, ho⟩, hk, hn⟩ := D
  unfold dictSet
  try with_reducible refine wpAny_holding ?_
  refine wpAny_bind (pyHash_key k key A s _ hkey (by omega) ?_)
  unfold dictSetHashed
  try with_reducible refine wpAny_holding ?_
  refine wpAny_bind (find_any (s := { s with toks := s.toks + k.draws }) (by omega) hkey hdep ho hk hn ?_ ?_)
  · intro hno
    refine wpAny_bind (wpAny_rule (wpAny_updateDictKeys (hz := by simpa using hz) (s := { s with toks := s.toks + k.draws }) ho rfl (hQ (ds ++ [⟨k.hash w, key, v⟩]) (ep + 1) _ _ (.inl ⟨hno, rfl⟩) ?_ (Heap.SameBut.update ..))))
    rw [Heap.get?_update_self _ ho (Obj.isFreed_of_dict (Obj.data_mapDictKeys (o := dObj ds ep) rfl _))]
    simp [Obj.mapDictKeys, dObj]
  · intro j hj
    have hi : j < ds.length := by rw [← hk.1]; exact (List.getElem?_eq_some_iff.mp hj).1
    refine wpAny_bind (wpAny_rule (wpAny_bind (wpAny_updateDict (s := { s with toks := s.toks + k.draws }) ho rfl (wpAny_point (hQ (ds.set j { ds[j] with val := v }) ep _ _ (.inr ⟨j, ds[j], hj, List.getElem?_eq_getElem hi, rfl⟩) ?_ (Heap.SameBut.update ..))))))
    rw [Heap.get?_update_self _ ho (Obj.isFreed_of_dict (Obj.data_mapDict (o := dObj ds ep) rfl _))]
    have e : (ds.toArray.modify j fun e => { e with val := v }) = (ds.set j { ds[j] with val := v }).toArray := by
      apply Array.ext_getElem?
      intro i
      rw [Array.getElem?_modify]
      by_cases h : j = i
      · subst h
        simp [hi, List.getElem?_eq_getElem hi]
      · simp [h]
    simp only [Obj.mapDict, dObj, e]
end
end Mp
set_option Elab.async false
set_option linter.all false
set_option maxRecDepth 100000
set_option maxHeartbeats 2000000
namespace Mp
open PySem PySem.Spec PyProof.Rows L2 SeqAt

def kOf : List W → List NestedKey
  | [] => []
  | .kv k _ :: r => k.key :: kOf r
  | _ :: r => kOf r
section
variable {F : Fx} {X : Cx} {pins : List (Addr × Obj)} {τ : L2.St} {H : Hp} {s : Shared} {ρ : List Addr}
theorem keq_iff {a b : W} (ha : keyOk 8 a = true) (hb : keyOk 8 b = true) : keq a b = true ↔ a.key = b.key := by
  rw [keq_key a b 8 8 ha hb]
  exact ⟨NestedKey.eq_of_beq _ _, fun e => by rw [e]; exact NestedKey.beq_self _⟩
theorem dict_at (hK : F.K = X.K) (I : Inv X pins τ H s) {a : Addr} {ds : List DictEntry} (h : SqD F.K H a ds) : ∃ ep, s.heap.get? a = some (dObj ds ep) := by
  rcases h with h | ⟨o, h⟩ | ⟨ep, h⟩
  · exact (show ObjOk X.prog X.w H s.heap a (dicO a ds) from I.hok a _ h).1
  · exact (show _ ∧ ObjOk X.prog X.w H s.heap a (dicO a ds) from I.hok a _ h).2.1
  · rw [hK] at h
    exact ⟨ep, I.kIn _ _ h⟩
theorem RpE.len : ∀ {es : List W} {ds : List DictEntry}, RpE F ρ H es ds → ds.length = es.length
  | [], _, h => by cases (show _ = [] from h); rfl
  | .kv _ _ :: _, _, h => by
    obtain ⟨d, r, rfl, _, _, _, h⟩ := h
    simp [RpE.len h]
  | .non :: _, _, h => h.elim
  | .bl _ :: _, _, h => h.elim
  | .int _ :: _, _, h => h.elim
  | .str _ :: _, _, h => h.elim
  | .tup _ :: _, _, h => h.elim
  | .lst _ :: _, _, h => h.elim
  | .dic _ :: _, _, h => h.elim
  | .ins _ _ :: _, _, h => h.elim
  | .ref _ :: _, _, h => h.elim
  | .clo _ _ :: _, _, h => h.elim
theorem RpE.none_ {w : W} {r : List W} {ds : List DictEntry} (h : RpE F ρ H (w :: r) ds) : ∃ k v, w = .kv k v := by
  cases w with
  | kv k v => exact ⟨k, v, rfl⟩
  | _ => exact (show False from h).elim
theorem KDist.tail {w : W} {r : List W} (h : KDist (w :: r)) : KDist r := by
  cases w with
  | kv k v => exact h.2.2
  | _ => exact (show False from h).elim
theorem kOf_mem : ∀ {es : List W} {q : NestedKey}, q ∈ kOf es → ∃ k v, .kv k v ∈ es ∧ k.key = q
  | [], _, h => by cases h
  | w :: r, q, h => by
    have go : q ∈ kOf r → ∃ k v, W.kv k v ∈ w :: r ∧ k.key = q := fun h => by
      obtain ⟨k, v, h1, h2⟩ := kOf_mem h
      exact ⟨k, v, List.mem_cons_of_mem _ h1, h2⟩
    cases w with
    | kv k v =>
      rcases List.mem_cons.mp (show q ∈ k.key :: kOf r from h) with e | e
      · exact ⟨k, v, List.mem_cons_self, e.symm⟩
      · exact go e
    | _ => exact go h
theorem KDist.ok : ∀ {es : List W} {k v : W}, KDist es → .kv k v ∈ es → keyOk 8 k = true
  | [], _, _, _, h => by cases h
  | w :: r, k, v, d, h => by
    rcases List.mem_cons.mp h with e | e
    · subst e
      exact d.1
    · exact KDist.ok d.tail e
theorem kOf_nodup : ∀ {es : List W}, KDist es → (kOf es).Nodup
  | [], _ => List.nodup_nil
  | w :: r, d => by
    cases w with
    | kv k v =>
      refine List.nodup_cons.mpr ⟨fun h => ?_, kOf_nodup d.tail⟩
      obtain ⟨k', v', h1, h2⟩ := kOf_mem h
      have h3 := d.2.1 k' v' h1
      rw [(keq_iff d.1 (KDist.ok d.tail h1)).mpr h2.symm] at h3
      cases h3
    | _ => exact (show False from d).elim
theorem keysAt (hK : F.K = X.K) (hw : F.w = X.w) (I : Inv X pins τ H s) : ∀ {es : List W} {ds : List DictEntry}, RpE F ρ H es ds → KDist es → KeysAt X.w s.heap ds (kOf es)
  | [], ds, h, _ => by
    cases (show ds = [] from h)
    exact ⟨rfl, fun i e z => by simp at z⟩
  | w :: r, ds, h, d => by
    obtain ⟨k, v, rfl⟩ := RpE.none_ h
    obtain ⟨e, t, rfl, h1, ⟨x, rx, h2⟩, _, h4⟩ := h
    obtain ⟨l, g⟩ := keysAt hK hw I h4 d.tail
    refine ⟨by show (kOf r).length + 1 = t.length + 1; rw [l], fun i e' z => ?_⟩
    cases i with
    | zero =>
      simp at z
      subst z
      obtain ⟨n1, n2⟩ := nest hK I k x _ 8 h2 rx d.1
      exact ⟨k.key, rfl, n1, n2, by rw [h1, hw]⟩
    | succ i => exact g i e' (by simpa using z)
theorem DA.of (hK : F.K = X.K) (hw : F.w = X.w) (I : Inv X pins τ H s) {es : List W} {ds : List DictEntry} {a : Addr} (h : SqD F.K H a ds) (r : RpE F ρ H es ds) (d : KDist es) : DA X.w s.heap a ds (kOf es) :=
  ⟨dict_at hK I h, keysAt hK hw I r d, kOf_nodup d⟩
theorem getE_none {k : W} (hk : keyOk 8 k = true) : ∀ {es : List W}, KDist es → getE k es = none → ∀ j : Nat, (kOf es)[j]? ≠ some k.key
  | [], _, _, j => by simp [kOf]
  | w :: r, d, h, j => by
    cases w with
    | kv k' v' =>
      unfold getE at h
      cases e : keq k' k with
      | true => rw [e] at h; cases h
      | false =>
        rw [e] at h
        cases j with
        | zero =>
          intro z
          have z : some k'.key = some k.key := by simpa [kOf] using z
          rw [(keq_iff d.1 hk).mpr (Option.some.inj z)] at e
          cases e
        | succ j =>
          intro z
          exact getE_none hk d.tail h j (by simpa [kOf] using z)
    | _ => exact (show False from d).elim
theorem getE_some {k v : W} (hk : keyOk 8 k = true) : ∀ {es : List W} {ds : List DictEntry}, RpE F ρ H es ds → KDist es → getE k es = some v → ∀ (j : Nat) (e : DictEntry), (kOf es)[j]? = some k.key → ds[j]? = some e → ∃ y, RelV y e.val ∧ Rp F ρ H v y
  | [], _, _, _, h, _, _, _, _ => by cases h
  | w :: r, ds, rr, d, h, j, e, h1, h2 => by
    obtain ⟨k', v', rfl⟩ := RpE.none_ rr
    obtain ⟨e', t, rfl, g1, _, g3, g4⟩ := rr
    unfold getE at h
    cases q : keq k' k with
    | true =>
      rw [q] at h
      cases h
      cases j with
      | zero =>
        simp at h2
        subst h2
        exact g3
      | succ j =>
        have h1 : (kOf r)[j]? = some k.key := by simpa [kOf] using h1
        obtain ⟨k2, v2, m, e2⟩ := kOf_mem (List.mem_of_getElem? h1)
        have h3 := d.2.1 k2 v2 m
        rw [(keq_iff d.1 (KDist.ok d.tail m)).mpr (by rw [e2]; exact (keq_iff d.1 hk).mp q)] at h3
        cases h3
    | false =>
      rw [q] at h
      cases j with
      | zero =>
        have h1 : some k'.key = some k.key := by simpa [kOf] using h1
        rw [(keq_iff d.1 hk).mpr (Option.some.inj h1)] at q
        cases q
      | succ j => exact getE_some hk g4 d.tail h j e (by simpa [kOf] using h1) (by simpa using h2)
theorem putE_mem {k v k2 v2 : W} : ∀ {es : List W}, .kv k2 v2 ∈ putE k v es → (k2 = k ∨ ∃ v', .kv k2 v' ∈ es)
  | [], h => by
    have h : W.kv k2 v2 = .kv k v := by simpa [putE] using h
    cases h
    exact .inl rfl
  | w :: r, h => by
    have other : .kv k2 v2 ∈ w :: putE k v r → (k2 = k ∨ ∃ v', W.kv k2 v' ∈ w :: r) := fun h => by
      rcases List.mem_cons.mp h with e | e
      · exact .inr ⟨v2, by rw [e]; exact List.mem_cons_self⟩
      · exact (putE_mem e).imp id fun ⟨v', m⟩ => ⟨v', List.mem_cons_of_mem _ m⟩
    cases w with
    | kv k' v' =>
      unfold putE at h
      cases q : keq k' k with
      | true =>
        rw [q] at h
        rcases List.mem_cons.mp h with e | e
        · cases e
          exact .inr ⟨v', List.mem_cons_self⟩
        · exact .inr ⟨v2, List.mem_cons_of_mem _ e⟩
      | false =>
        rw [q] at h
        exact other h
    | _ => exact other h
theorem putE_dist {k v : W} (hk : keyOk 8 k = true) : ∀ {es : List W}, KDist es → KDist (putE k v es)
  | [], _ => ⟨hk, ⟨fun _ _ h => absurd h List.not_mem_nil, True.intro⟩⟩
  | w :: r, d => by
    cases w with
    | kv k' v' =>
      unfold putE
      cases q : keq k' k with
      | true => exact d
      | false =>
        refine ⟨d.1, fun k2 v2 m => ?_, putE_dist hk d.tail⟩
        rcases putE_mem m with e | ⟨v3, e⟩
        · rw [e]; exact q
        · exact d.2.1 k2 v3 e
    | _ => exact (show False from d).elim
theorem putE_rel {k v : W} {x y : V} {key val : Value} (hk : keyOk 8 k = true) (rk : Rp F ρ H k x) (rx : RelV x key) (rv : Rp F ρ H v y) (ry : RelV y val) : ∀ {es : List W} {ds ds' : List DictEntry}, RpE F ρ H es ds → KDist es → setD F.w (kOf es) k.key key val ds ds' → RpE F ρ H (putE k v es) ds'
  | [], ds, ds', h, _, st => by
    cases (show ds = [] from h)
    rcases st with ⟨_, rfl⟩ | ⟨j, e, h1, _⟩
    · exact ⟨_, [], rfl, rfl, ⟨x, rx, rk⟩, ⟨y, ry, rv⟩, rfl⟩
    · simp [kOf] at h1
  | w :: r, ds, ds', h, d, st => by
    obtain ⟨k', v', rfl⟩ := RpE.none_ h
    obtain ⟨e, t, rfl, g1, g2, g3, g4⟩ := h
    unfold putE
    cases q : keq k' k with
    | true =>
      have ek := (keq_iff d.1 hk).mp q
      rcases st with ⟨h1, _⟩ | ⟨j, e', h1, h2, rfl⟩
      · exact absurd (show (kOf (.kv k' v' :: r))[0]? = some k.key by rw [← ek]; rfl) (h1 0)
      · cases j with
        | zero =>
          simp at h2
          subst h2
          exact ⟨_, t, rfl, g1, g2, ⟨y, ry, rv⟩, g4⟩
        | succ j =>
          have h1 : (kOf r)[j]? = some k.key := by simpa [kOf] using h1
          obtain ⟨k2, v2, m, e2⟩ := kOf_mem (List.mem_of_getElem? h1)
          have h3 := d.2.1 k2 v2 m
          rw [(keq_iff d.1 (KDist.ok d.tail m)).mpr (by rw [e2]; exact ek)] at h3
          cases h3
    | false =>
      rcases st with ⟨h1, rfl⟩ | ⟨j, e', h1, h2, rfl⟩
      · exact ⟨e, _, rfl, g1, g2, g3, putE_rel hk rk rx rv ry g4 d.tail (.inl ⟨fun j z => h1 (j + 1) (by simpa [kOf] using z), rfl⟩)⟩
      · cases j with
        | zero =>
          have h1 : some k'.key = some k.key := by simpa [kOf] using h1
          rw [(keq_iff d.1 hk).mpr (Option.some.inj h1)] at q
          cases q
        | succ j => exact ⟨e, _, rfl, g1, g2, g3, putE_rel hk rk rx rv ry g4 d.tail (.inr ⟨j, e', by simpa [kOf] using h1, by simpa using h2, rfl⟩)⟩
theorem putE_len {k v : W} : ∀ {es : List W}, es.length ≤ (putE k v es).length ∧ (putE k v es).length ≤ es.length + 1
  | [] => by simp [putE]
  | w :: r => by
    have other : (w :: r).length ≤ (w :: putE k v r).length ∧ (w :: putE k v r).length ≤ (w :: r).length + 1 := by
      have := putE_len (k := k) (v := v) (es := r)
      simp only [List.length_cons]
      omega
    cases w with
    | kv k' v' =>
      unfold putE
      cases q : keq k' k with
      | true => simp
      | false => exact other
    | _ => exact other
/-- a dict of the store is another -/
theorem Inv.putD {a : Addr} {ds ds' : List DictEntry} {ep tk : Nat} {h' : Heap} (I : Inv X pins τ H s) (h : H a = some (dicO a ds)) (k : Heap.SameBut a s.heap h') (e : h'.get? a = some (dObj ds' ep)) :
    Inv X pins τ (upd H a (dicO a ds')) { s with heap := h', toks := tk } := by
  refine I.write (x := a) (e := a) (by rw [h]; exact True.intro) (.inl rfl) (fun b u n q => (k.2 b n).trans q) ⟨_, e⟩ ?_
  exact ⟨⟨ep, e⟩, ⟨_, e⟩, fun h1 h2 ⟨ep, q⟩ z => ⟨ep, z _ q⟩⟩
end
end Mp
set_option Elab.async false
set_option linter.all false
set_option maxRecDepth 100000
set_option maxHeartbeats 2000000
namespace Mp
open PySem PySem.Spec PyProof.Rows L2 SeqAt

section
variable {F : Fx} {X : Cx} {pins : List (Addr × Obj)} {τ : L2.St} {H : Hp} {s : Shared} {ρ : List Addr}
/-- what == answers hangs on the value -/
theorem eqa_det (hK : F.K = X.K) (I : Inv X pins τ H s) : ∀ (n : Nat) (a b c : W) (r r' : Bool) (x : V) (v : Value), eqa n a c = some r → eqa n b c = some r' → Rp F ρ H a x → Rp F ρ H b x → RelV x v → r = r' := by
  have leaf : ∀ (a b c : W) (r r' : Bool) (x : V) (v : Value), (match keyOk 8 a && keyOk 8 c with | true => some (keq a c) | false => none) = some r → (match keyOk 8 b && keyOk 8 c with | true => some (keq b c) | false => none) = some r' → Rp F ρ H a x → Rp F ρ H b x → RelV x v → r = r' := by
    intro a b c r r' x v h1 h2 ra rb rv
    split at h1
    · rename_i q
      obtain ⟨q1, q2⟩ := Bool.and_eq_true_iff.mp q
      split at h2
      · rename_i q'
        obtain ⟨q3, q4⟩ := Bool.and_eq_true_iff.mp q'
        rw [← Option.some.inj h1, ← Option.some.inj h2, keq_key a c 8 8 q1 q2, keq_key b c 8 8 q3 q2]
        rw [NestedIs.inj _ _ _ (nest hK I a x v 8 ra rv q1).1 (nest hK I b x v 8 rb rv q3).1]
      · cases h2
    · cases h1
  intro n
  induction n with
  | zero =>
    intro a b c r r' x v h1 h2 ra rb rv
    rcases eqa_cases h1 with ⟨m, xs, zs, e, _⟩ | h1
    · cases e
    · rcases eqa_cases h2 with ⟨m, xs, zs, e, _⟩ | h2
      · cases e
      · exact leaf a b c r r' x v h1 h2 ra rb rv
  | succ n ih =>
    intro a b c r r' x v h1 h2 ra rb rv
    rcases eqa_cases h1 with ⟨m, xs, zs, e, rfl, rfl, h1⟩ | h1
    · cases e
      rcases eqa_cases h2 with ⟨m, ys, zs', e, rfl, e', h2⟩ | h2
      · cases e
        cases e'
        obtain ⟨p, us, rfl, g1, g2⟩ := ra
        obtain ⟨p', vs, e', g3, g4⟩ := rb
        cases e'
        cases fzL_inj g1 g3
        have hl : xs.length = ys.length := by rw [← g2.length, ← g4.length]
        rw [hl] at h1
        split at h1
        · rename_i q
          rw [q] at h2
          have q := of_decide_eq_true q
          obtain ⟨e1, a1, rfl, _⟩ := all2_at h1
          obtain ⟨e2, a2, rfl, _⟩ := all2_at h2
          rw [hl]
          have : ∀ j ∈ List.range ys.length, e1 j = e2 j := fun j hj => by
            have hj : j < ys.length := List.mem_range.mp hj
            have hj' : j < xs.length := by omega
            have hj2 : j < zs.length := by omega
            obtain ⟨u1, k1, r1⟩ := Rps.get g2 (List.getElem?_eq_getElem hj')
            obtain ⟨u2, k2, r2⟩ := Rps.get g4 (List.getElem?_eq_getElem hj)
            rw [k1] at k2
            cases k2
            obtain ⟨its, k, rv', he, _⟩ := lstR I g1.rd
            obtain ⟨z, _, rz⟩ := rv'.get k1
            exact ih _ _ _ _ _ u1 z (a1 j _ _ (List.getElem?_eq_getElem hj') (List.getElem?_eq_getElem hj2)) (a2 j _ _ (List.getElem?_eq_getElem hj) (List.getElem?_eq_getElem hj2)) r1 r2 rz
          rw [Bool.eq_iff_iff, List.all_eq_true, List.all_eq_true]
          exact ⟨fun h j hj => by rw [← this j hj]; exact h j hj, fun h j hj => by rw [this j hj]; exact h j hj⟩
        · rename_i q
          rw [q] at h2
          cases h1
          cases h2
          rfl
      · simp [keyOk] at h2
    · rcases eqa_cases h2 with ⟨m, ys, zs', e, rfl, rfl, h2⟩ | h2
      · simp [keyOk] at h1
      · exact leaf a b c r r' x v h1 h2 ra rb rv
theorem oOr_some {a b : Option Bool} {r : Bool} (h : oOr a b = some r) : ∃ x y, a = some x ∧ b = some y ∧ r = (x || y) := by
  cases a with
  | none => cases h
  | some x =>
    cases b with
    | none => cases h
    | some y => exact ⟨x, y, rfl, rfl, (Option.some.inj h).symm⟩
theorem memW_at {x : W} : ∀ {ws : List W} {r : Bool}, memW x ws = some r → ∃ e : Nat → Bool, (∀ (j : Nat) (y : W), ws[j]? = some y → eqa 20 y x = some (e j)) ∧ (r = true ↔ ∃ j, j < ws.length ∧ e j = true)
  | [], r, h => by
    cases h
    exact ⟨fun _ => false, fun j y h => by simp at h, by simp⟩
  | w :: ws, r, h => by
    obtain ⟨a, b, h1, h2, rfl⟩ := oOr_some h
    obtain ⟨e, h3, h4⟩ := memW_at h2
    refine ⟨fun j => match j with | 0 => a | j + 1 => e j, fun j y z => ?_, ?_⟩
    · cases j with
      | zero =>
        have z : w = y := by simpa using z
        rw [← z]; exact h1
      | succ j => exact h3 j y (by simpa using z)
    · rw [Bool.or_eq_true, h4]
      refine ⟨fun z => ?_, fun ⟨j, hj, z⟩ => ?_⟩
      · rcases z with z | ⟨j, hj, z⟩
        · exact ⟨0, by simp, z⟩
        · exact ⟨j + 1, by simpa using hj, z⟩
      · cases j with
        | zero => exact .inl z
        | succ j => exact .inr ⟨j, by simpa using hj, z⟩
/-- the marks of a row's items, by value -/
theorem mem_marks (hK : F.K = X.K) (I : Inv X pins τ H s) {A : Around} (hu : A.units + 64 < cLine) {x : W} {ws : List W} {r : Bool} {vx : V} {ux : Value} {vs : List V} {its : List Value} (h : memW x ws = some r) (rx : Rp F ρ H x vx) (rvx : RelV vx ux) (r1 : Rps F ρ H ws vs) (r2 : Vals vs its) :
    ∃ e : Value → Bool, (∀ y, y ∈ its.toArray → EqAt A s y ux (e y)) ∧ its.toArray.any e = r := by
  classical
  obtain ⟨e, h1, h2⟩ := memW_at h
  have hl : its.length = ws.length := by rw [← r2.length, r1.length]
  have at_ : ∀ j, j < ws.length → ∃ w v u, ws[j]? = some w ∧ vs[j]? = some v ∧ its[j]? = some u ∧ Rp F ρ H w v ∧ RelV v u ∧ eqa 20 w x = some (e j) := fun j hj => by
    obtain ⟨v, k1, k2⟩ := Rps.get r1 (List.getElem?_eq_getElem hj)
    obtain ⟨u, k3, k4⟩ := r2.get k1
    exact ⟨_, v, u, List.getElem?_eq_getElem hj, k1, k3, k2, k4, h1 j _ (List.getElem?_eq_getElem hj)⟩
  let g : Value → Bool := fun y => decide (∃ j, j < ws.length ∧ its[j]? = some y ∧ e j = true)
  have gj : ∀ j u, j < ws.length → its[j]? = some u → g u = e j := fun j u hj hu => by
    cases q : e j with
    | true => exact decide_eq_true ⟨j, hj, hu, q⟩
    | false =>
      refine decide_eq_false fun ⟨k, hk, hku, hke⟩ => ?_
      obtain ⟨w, v, u1, a1, a2, a3, a4, a5, a6⟩ := at_ j hj
      obtain ⟨w', v', u2, b1, b2, b3, b4, b5, b6⟩ := at_ k hk
      rw [hu] at a3
      rw [hku] at b3
      cases a3
      cases b3
      cases RelV.inj a5 b5
      have := eqa_det hK I 20 w w' x _ _ v u a6 b6 a4 b4 a5
      rw [q, hke] at this
      cases this
  refine ⟨g, fun y hy => ?_, ?_⟩
  · have hy : y ∈ its := by simpa using hy
    obtain ⟨j, hj⟩ := List.mem_iff_getElem?.mp hy
    have hjl : j < ws.length := by rw [← hl]; exact (List.getElem?_eq_some_iff.mp hj).1
    obtain ⟨w, v, u1, a1, a2, a3, a4, a5, a6⟩ := at_ j hjl
    rw [hj] at a3
    cases a3
    rw [gj j y hjl hj]
    exact eqa_at hK I 20 A (by omega) w x _ v vx y ux a6 a4 rx a5 rvx
  · rw [Bool.eq_iff_iff, h2, Array.any_eq_true]
    refine ⟨fun ⟨j, hj, z⟩ => ?_, fun ⟨j, hj, z⟩ => ?_⟩
    · have hj' : j < its.length := by simpa using hj
      refine ⟨j, by omega, ?_⟩
      rw [← gj j its[j] (by omega) (List.getElem?_eq_getElem hj')]
      simpa using z
    · have hj' : j < its.length := by omega
      refine ⟨j, by simpa using hj', ?_⟩
      have := gj j its[j] hj (List.getElem?_eq_getElem hj')
      simpa [this] using z
end
end Mp
set_option Elab.async false
set_option linter.all false
set_option maxRecDepth 100000
set_option maxHeartbeats 2000000
namespace Mp
open PySem PySem.Spec PyProof.Rows L2 SeqAt

inductive HitsA (P : Program) (w : World) (A : Around) (s : Shared) (dsb : List DictEntry) (ksb : List NestedKey) : List DictEntry → List NestedKey → Bool → Prop
  | nil : HitsA P w A s dsb ksb [] [] true
  | miss {d : DictEntry} {k : NestedKey} {ds : List DictEntry} {ks : List NestedKey} : (∀ j : Nat, ksb[j]? ≠ some k) → HitsA P w A s dsb ksb (d :: ds) (k :: ks) false
  | hit {d e : DictEntry} {k : NestedKey} {ds : List DictEntry} {ks : List NestedKey} {b r : Bool} (j : Nat) : ksb[j]? = some k → dsb[j]? = some e → EqP P w A s d.val e.val b → HitsA P w A s dsb ksb ds ks r → HitsA P w A s dsb ksb (d :: ds) (k :: ks) (b && r)
section
variable {P : Program} {w : World} {A : Around} {E : Value → Shared → Prop} {s : Shared}
theorem same_any {nm : String} {a b : Addr} {dsa dsb : List DictEntry} {ksa ksb : List NestedKey} {r : Bool} {Q : Bool → Shared → Prop} (hu : A.units + 20 < cLine) (ha : (a == sysModules) = false) (hb : (b == sysModules) = false)
    (Da : DA w s.heap a dsa ksa) (Db : DA w s.heap b dsb ksb) (hits : dsa.length = dsb.length → HitsA P w A s dsb ksb dsa ksa r) (h : Q (dsa.length == dsb.length && r) s) : wpAny (model P w) A (Builtin.Dict.samePairs nm a b) Q E s := by
  obtain ⟨⟨ep, hoa⟩, hka, hna⟩ := Da
  obtain ⟨⟨ep', hob⟩, hkb, hnb⟩ := Db
  unfold Builtin.Dict.samePairs Builtin.Dict.showsAll
  rw [if_neg (show ¬ (a == sysModules) = true by rw [ha]; exact Bool.false_ne_true), if_neg (show ¬ (b == sysModules) = true by rw [hb]; exact Bool.false_ne_true)]
  refine wpAny_bind (wpAny_pure (wpAny_bind (wpAny_pure ?_)))
  refine wpAny_bind (wpAny_dictEntries hoa rfl ?_)
  dsimp only
  refine wpAny_bind (wpAny_dictEntries hob rfl ?_)
  by_cases hsz : dsa.length = dsb.length
  case neg =>
    rw [if_pos (by simpa using hsz)]
    have hbf : (dsa.length == dsb.length) = false := by simpa using hsz
    rw [hbf, Bool.false_and] at h
    exact wpAny_bind (wpAny_rule (wpAny_pure h))
  case pos =>
    have h' : Q r s := by simpa [hsz] using h
    have hits' := hits hsz
    rw [if_neg (by simp [hsz])]
    refine wpAny_bind (wpAny_dictEpoch hoa rfl ?_)
    refine wpAny_bind ?_
    rw [Std.Legacy.Range.forIn_eq_forIn_range']
    simp only [Std.Legacy.Range.size, Nat.sub_zero, Nat.add_sub_cancel, Nat.div_one]
    refine wpAny_forIn_list _
      (fun rest q s' => s' = s ∧ q = (none, ()) ∧ ∃ i, rest = List.range' i (dsa.length - i) ∧ i ≤ dsa.length ∧ HitsA P w A s dsb ksb (dsa.drop i) (ksa.drop i) r)
      _ ?_ ?_ _ _ ⟨rfl, rfl, 0, by simp, Nat.zero_le _, hits'⟩
    · rintro x rest q s' ⟨rfl, rfl, i, hr, hi, hpre⟩
      have hlt : i < dsa.length := by
        rcases Nat.lt_or_ge i dsa.length with h | h
        · exact h
        · rw [Nat.sub_eq_zero_of_le h] at hr; simp at hr
      obtain ⟨rfl, hrest⟩ : x = i ∧ rest = List.range' (i + 1) (dsa.length - (i + 1)) := by
        have e : dsa.length - i = (dsa.length - (i + 1)) + 1 := by omega
        rw [e, List.range'_succ] at hr
        injection hr with h1 h2
        exact ⟨h1, h2⟩
      refine wpAny_bind (wpAny_dictEntries hoa rfl ?_)
      rw [show dsa.toArray[x]? = some dsa[x] by simp [List.getElem?_eq_getElem hlt]]
      have hlk : x < ksa.length := by rw [hka.1]; exact hlt
      rw [List.drop_eq_getElem_cons hlt, List.drop_eq_getElem_cons hlk] at hpre
      obtain ⟨k2, z1, n1, d1, z2⟩ := hka.2 x dsa[x] (List.getElem?_eq_getElem hlt)
      rw [List.getElem?_eq_getElem hlk] at z1
      cases z1
      show wpAny _ _ (holding [dsa[x].key, dsa[x].val] _ >>= _) _ _ _
      rw [z2]
      refine wpAny_bind (wpAny_holding (wpAny_bind (find_any (by omega) n1 d1 hob hkb hnb ?_ ?_)))
      · intro hno
        have er : r = false := by
          cases hpre with
          | miss _ => rfl
          | hit j e1 => exact absurd e1 (hno j)
        rw [er] at h'
        refine wpAny_pure ?_
        show wpAny _ _ (if (!false) = true then _ else _) _ _ _
        rw [if_pos (by decide)]
        exact wpAny_pure (wpAny_pure h')
      · intro j hj
        have hjl : j < dsb.length := by rw [← hkb.1]; exact (List.getElem?_eq_some_iff.mp hj).1
        refine wpAny_bind (wpAny_dictEntries hob rfl ?_)
        rw [show dsb.toArray[j]? = some dsb[j] by simp [List.getElem?_eq_getElem hjl]]
        obtain ⟨e, b', er, he, hrr⟩ : ∃ e b', r = (e && b') ∧ EqP P w A s' dsa[x].val dsb[j].val e ∧ HitsA P w A s' dsb ksb (dsa.drop (x + 1)) (ksa.drop (x + 1)) b' := by
          cases hpre with
          | miss hno => exact absurd hj (hno j)
          | hit j' e1 e2 e3 e4 =>
            have : j = j' := (List.getElem?_inj (List.getElem?_eq_some_iff.mp hj).1 hnb).mp (hj.trans e1.symm)
            subst this
            rw [List.getElem?_eq_getElem hjl] at e2
            cases e2
            exact ⟨_, _, rfl, e3, e4⟩
        refine wpAny_holding (he _ _ ?_)
        cases e with
        | false =>
          rw [er, Bool.false_and] at h'
          show wpAny _ _ (if (!false) = true then _ else _) _ _ _
          rw [if_pos (by decide)]
          exact wpAny_pure (wpAny_pure h')
        | true =>
          rw [Bool.true_and] at er
          rw [← er] at hrr
          show wpAny _ _ (if (!true) = true then _ else _) _ _ _
          rw [if_neg (by decide)]
          refine wpAny_bind (wpAny_dictEpoch hoa rfl ?_)
          rw [if_neg (by simp)]
          exact wpAny_pure ⟨rfl, rfl, x + 1, hrest, hlt, hrr⟩
    · rintro q s' ⟨rfl, rfl, i, hr, hi, hpre⟩
      have hin : i = dsa.length := by
        rcases Nat.lt_or_ge i dsa.length with h | h
        · have e : dsa.length - i = (dsa.length - (i + 1)) + 1 := by omega
          rw [e, List.range'_succ] at hr; exact nomatch hr
        · exact Nat.le_antisymm hi h
      refine wpAny_pure ?_
      rw [hin, List.drop_length, ← hka.1, List.drop_length] at hpre
      cases hpre
      exact h'
theorem dict_eq_any {a b : Addr} {dsa dsb : List DictEntry} {ksa ksb : List NestedKey} {r : Bool} {Q : Value → Shared → Prop} (hu : A.units + 30 < cLine) (ha : (a == sysModules) = false) (hb : (b == sysModules) = false)
    (Da : DA w s.heap a dsa ksa) (Db : DA w s.heap b dsb ksb) (hits : dsa.length = dsb.length → HitsA P w A.in1 s dsb ksb dsa ksa r) (h : Q (.bool (dsa.length == dsb.length && r)) s) : wpAny (model P w) A (richCompare .Eq (.ref a) (.ref b)) Q E s := by
  refine wpAny_richCompare_same_room (op := .Eq) Da.ty Db.ty PySem.F.slot_dict_eq (wpAny_call_entry PySem.F.slot_dict_eq Da.ty PySem.F.entry_dict_eq ?_ (PySem.F.args_dict_eq_2 _ _)) (by omega)
  show wpAny _ _ (Builtin.Dict.dictSlotArgs "__eq__" ⟨[.ref a, .ref b], []⟩ >>= _) _ _ s
  refine wpAny_bind ?_
  unfold Builtin.Dict.dictSlotArgs
  refine wpAny_bind (wpAny_notOrdered_dict Da.ty ?_)
  show wpAny _ _ (pure (Value.ref a, Value.ref b)) _ _ s
  refine wpAny_pure ?_
  refine wpAny_bind (wpAny_isInstance (T := "dict") Db.ty PySem.F.sub_dict_dict ?_)
  simp only [Bool.not_true, Bool.false_eq_true, if_false]
  refine wpAny_bind (wpAny_pure (wpAny_bind (wpAny_pure ?_)))
  refine wpAny_bind (same_any (by show A.units + 1 + 20 < _; omega) ha hb Da Db hits ?_)
  refine wpAny_pure ⟨_, rfl, ?_, ?_⟩
  · exact fun x => nomatch x
  · simpa using h
theorem dict_ne_any {a b : Addr} {dsa dsb : List DictEntry} {ksa ksb : List NestedKey} {r : Bool} {Q : Value → Shared → Prop} (hu : A.units + 30 < cLine) (ha : (a == sysModules) = false) (hb : (b == sysModules) = false)
    (Da : DA w s.heap a dsa ksa) (Db : DA w s.heap b dsb ksb) (hits : dsa.length = dsb.length → HitsA P w A.in1 s dsb ksb dsa ksa r) (h : Q (.bool (!(dsa.length == dsb.length && r))) s) : wpAny (model P w) A (compareOp .NotEq (.ref a) (.ref b)) Q E s := by
  refine wpAny_richCompare_same_room (op := .NotEq) Da.ty Db.ty PySem.F.slot_dict_ne (wpAny_call_entry PySem.F.slot_dict_ne Da.ty PySem.F.entry_dict_ne ?_ (PySem.F.args_dict_ne_2 _ _)) (by omega)
  show wpAny _ _ (Builtin.Dict.dictSlotArgs "__ne__" ⟨[.ref a, .ref b], []⟩ >>= _) _ _ s
  refine wpAny_bind ?_
  unfold Builtin.Dict.dictSlotArgs
  refine wpAny_bind (wpAny_notOrdered_dict Da.ty ?_)
  show wpAny _ _ (pure (Value.ref a, Value.ref b)) _ _ s
  refine wpAny_pure ?_
  refine wpAny_bind (wpAny_isInstance (T := "dict") Db.ty PySem.F.sub_dict_dict ?_)
  simp only [Bool.not_true, Bool.false_eq_true, if_false]
  refine wpAny_bind (wpAny_pure (wpAny_bind (wpAny_pure ?_)))
  refine wpAny_bind (same_any (by show A.units + 1 + 20 < _; omega) ha hb Da Db hits ?_)
  refine wpAny_pure ⟨_, rfl, ?_, ?_⟩
  · exact fun x => nomatch x
  · simpa using h
end
end Mp
set_option Elab.async false
set_option linter.all false
set_option maxRecDepth 100000
set_option maxHeartbeats 2000000
namespace Mp
open PySem PySem.Spec PyProof.Rows L2 SeqAt

section
variable {F : Fx} {X : Cx} {pins : List (Addr × Obj)} {τ : L2.St} {H : Hp} {s : Shared} {ρ : List Addr}
theorem fzD_inj (hK : F.K = X.K) (I : Inv X pins τ H s) {a : Addr} {ds ds' : List DictEntry} (h : SqD F.K H a ds) (h' : SqD F.K H a ds') : ds = ds' := by
  obtain ⟨ep, e⟩ := dict_at hK I h
  obtain ⟨ep', e'⟩ := dict_at hK I h'
  rw [e] at e'
  have := congrArg Obj.data (Option.some.inj e')
  simpa using (by injection this : ds.toArray = ds'.toArray)
theorem getE_at (hK : F.K = X.K) (I : Inv X pins τ H s) {k : W} {x : V} (hk : keyOk 8 k = true) (rk : Rp F ρ H k x) : ∀ {fs : List W} {ds : List DictEntry} (j : Nat) (d : DictEntry), RpE F ρ H fs ds → KDist fs → ds[j]? = some d → RelV x d.key → ∃ u, getE k fs = some u ∧ ∃ y, RelV y d.val ∧ Rp F ρ H u y
  | [], ds, j, d, h, _, hj, _ => by
    cases (show ds = [] from h)
    simp at hj
  | w :: r, ds, j, d, h, kd, hj, rx => by
    obtain ⟨k', v', rfl⟩ := RpE.none_ h
    obtain ⟨e, t, rfl, g1, ⟨x', gx, g2⟩, g3, g4⟩ := h
    unfold getE
    cases j with
    | zero =>
      simp at hj
      subst hj
      cases RelV.inj rx gx
      rw [keq_same hK I g2 rk rx kd.1 hk]
      exact ⟨v', rfl, g3⟩
    | succ j =>
      have hj : t[j]? = some d := by simpa using hj
      obtain ⟨u, e1, e2⟩ := getE_at hK I hk rk j d g4 kd.tail hj rx
      cases q : keq k' k with
      | false => exact ⟨u, e1, e2⟩
      | true =>
        exfalso
        suffices ∀ (r : List W) (u : W), getE k r = some u → KDist r → ∃ k2 v2, W.kv k2 v2 ∈ r ∧ keq k2 k = true by
          obtain ⟨k2, v2, m, z⟩ := this r u e1 kd.tail
          have h3 := kd.2.1 k2 v2 m
          rw [(keq_iff kd.1 (KDist.ok kd.tail m)).mpr (((keq_iff kd.1 hk).mp q).trans ((keq_iff (KDist.ok kd.tail m) hk).mp z).symm)] at h3
          cases h3
        intro r
        induction r with
        | nil => intro u h; cases h
        | cons w r ih =>
          intro u h d
          cases w with
          | kv k2 v2 =>
            unfold getE at h
            cases z : keq k2 k with
            | true => exact ⟨k2, v2, List.mem_cons_self, z⟩
            | false =>
              rw [z] at h
              obtain ⟨k3, v3, m, z'⟩ := ih u h d.tail
              exact ⟨k3, v3, List.mem_cons_of_mem _ m, z'⟩
          | _ => exact (show False from d).elim
theorem eqo_cases {n : Nat} {a b : W} {r : Bool} (h : eqo n a b = some r) : (∃ m xs ys, n = m + 1 ∧ a = .lst xs ∧ b = .lst ys ∧ (match decide (xs.length = ys.length) with | true => all2 (eqo m) xs ys | false => some false) = some r) ∨
    (∃ m es fs, n = m + 1 ∧ a = .dic es ∧ b = .dic fs ∧ (match decide (es.length = fs.length) with | true => subD (eqo m) es fs | false => some false) = some r) ∨
    (match keyOk 8 a && keyOk 8 b with | true => some (keq a b) | false => none) = some r := by
  unfold eqo at h
  split at h
  · exact .inl ⟨_, _, _, rfl, rfl, rfl, h⟩
  · split at h
    · exact .inr (.inl ⟨_, _, _, rfl, rfl, rfl, h⟩)
    · cases h
  · exact .inr (.inr h)
theorem subD_cases {f : W → W → Option Bool} {k v : W} {es fs : List W} {r : Bool} (h : subD f (.kv k v :: es) fs = some r) : (getE k fs = none ∧ r = false) ∨ ∃ u e b, getE k fs = some u ∧ f v u = some e ∧ subD f es fs = some b ∧ r = (e && b) := by
  unfold subD at h
  cases q : getE k fs with
  | none => rw [q] at h; cases h; exact .inl ⟨rfl, rfl⟩
  | some u =>
    rw [q] at h
    obtain ⟨e, b, h1, h2, rfl⟩ := oAnd_some h
    exact .inr ⟨u, e, b, rfl, h1, h2, rfl⟩
theorem eqo_same (hK : F.K = X.K) (I : Inv X pins τ H s) : ∀ (n : Nat) (a b : W) (r : Bool) (x : V) (v : Value), eqo n a b = some r → Rp F ρ H a x → Rp F ρ H b x → RelV x v → r = true := by
  intro n
  induction n with
  | zero =>
    intro a b r x v h ra rb rv
    rcases eqo_cases h with ⟨m, _, _, e, _⟩ | ⟨m, _, _, e, _⟩ | h
    · cases e
    · cases e
    · exact eqa_same hK I 0 a b r x v (by unfold eqa; split at h <;> simp_all) ra rb rv
  | succ n ih =>
    intro a b r x v h ra rb rv
    rcases eqo_cases h with ⟨m, xs, ys, e, rfl, rfl, h⟩ | ⟨m, es, fs, e, rfl, rfl, h⟩ | h
    · cases e
      obtain ⟨p, us, rfl, h1, h2⟩ := ra
      obtain ⟨p', vs, e', h3, h4⟩ := rb
      cases e'
      cases fzL_inj h1 h3
      have hl : xs.length = ys.length := by rw [← h2.length, ← h4.length]
      rw [decide_eq_true hl] at h
      obtain ⟨e, a1, rfl, _⟩ := all2_at h
      rw [List.all_eq_true]
      intro j hj
      have hj : j < xs.length := List.mem_range.mp hj
      have hj' : j < ys.length := by omega
      obtain ⟨u1, e1, r1⟩ := Rps.get h2 (List.getElem?_eq_getElem hj)
      obtain ⟨u2, e2, r2⟩ := Rps.get h4 (List.getElem?_eq_getElem hj')
      rw [e1] at e2
      cases e2
      obtain ⟨its, k, rv', he, _⟩ := lstR I h1.rd
      obtain ⟨z, _, rz⟩ := rv'.get e1
      exact ih _ _ _ u1 z (a1 j _ _ (List.getElem?_eq_getElem hj) (List.getElem?_eq_getElem hj')) r1 r2 rz
    · cases e
      obtain ⟨p, ds, rfl, _, h1, _, h2, h3⟩ := ra
      obtain ⟨p', ds', e', _, h4, _, h5, h6⟩ := rb
      cases e'
      cases fzD_inj hK I (.inr h1) (.inr h4)
      have hl : es.length = fs.length := by rw [← h3.len, ← h6.len]
      rw [decide_eq_true hl] at h
      suffices ∀ (es : List W) (t : List DictEntry) (c : Nat) (r : Bool), subD (eqo n) es fs = some r → RpE F ρ H es t → KDist es → (∀ j d, t[j]? = some d → ds[c + j]? = some d) → r = true from this es ds 0 r h h3 h2 fun j d z => by simpa using z
      intro es
      induction es with
      | nil => intro t c r h _ _ _; cases h; rfl
      | cons w es ih2 =>
        intro t c r h rr kd at_
        obtain ⟨k, v, rfl⟩ := RpE.none_ rr
        obtain ⟨d, t', rfl, g1, ⟨x, gx, g2⟩, ⟨y, gy, g3⟩, g4⟩ := rr
        obtain ⟨u, e1, y', e2, e3⟩ := getE_at hK I kd.1 g2 c d h6 h5 (by simpa using at_ 0 d rfl) gx
        rcases subD_cases h with ⟨e4, _⟩ | ⟨u', e, b, e4, e5, e6, rfl⟩
        · rw [e1] at e4; cases e4
        · rw [e1] at e4
          cases e4
          cases RelV.inj gy e2
          rw [ih v u e y d.val e5 g3 e3 gy, ih2 t' (c + 1) b e6 g4 kd.tail fun j d' z => by
            have := at_ (j + 1) d' (by simpa using z)
            rw [show c + 1 + j = c + (j + 1) by omega]
            exact this]
          rfl
    · exact eqa_same hK I 0 a b r x v (by unfold eqa; split at h <;> simp_all) ra rb rv
end
end Mp
set_option Elab.async false
set_option linter.all false
set_option maxRecDepth 100000
set_option maxHeartbeats 2000000
namespace Mp
open PySem PySem.Spec PyProof.Rows L2 SeqAt

section
variable {F : Fx} {X : Cx} {pins : List (Addr × Obj)} {τ : L2.St} {H : Hp} {s : Shared} {ρ : List Addr}
theorem getE_idx {k u : W} (hk : keyOk 8 k = true) : ∀ {fs : List W} {ds : List DictEntry}, RpE F ρ H fs ds → KDist fs → getE k fs = some u → ∃ (j : Nat) (e : DictEntry), (kOf fs)[j]? = some k.key ∧ ds[j]? = some e ∧ ∃ y, RelV y e.val ∧ Rp F ρ H u y
  | [], _, _, _, h => by cases h
  | w :: r, ds, rr, d, h => by
    obtain ⟨k', v', rfl⟩ := RpE.none_ rr
    obtain ⟨e', t, rfl, g1, _, g3, g4⟩ := rr
    unfold getE at h
    cases q : keq k' k with
    | true =>
      rw [q] at h
      cases h
      exact ⟨0, e', by rw [← (keq_iff d.1 hk).mp q]; rfl, rfl, g3⟩
    | false =>
      rw [q] at h
      obtain ⟨j, e, h1, h2, h3⟩ := getE_idx hk g4 d.tail h
      exact ⟨j + 1, e, by simpa [kOf] using h1, by simpa using h2, h3⟩
theorem hits_of {A : Around} {f : W → W → Option Bool} {fs : List W} {dsb : List DictEntry} (ih : ∀ (a b : W) (r : Bool) (x y : V) (v u : Value), f a b = some r → Rp F ρ H a x → Rp F ρ H b y → RelV x v → RelV y u → EqP X.prog X.w A s v u r)
    (rb : RpE F ρ H fs dsb) (kb : KDist fs) : ∀ {es : List W} {dsa : List DictEntry} {r : Bool}, subD f es fs = some r → RpE F ρ H es dsa → KDist es → HitsA X.prog X.w A s dsb (kOf fs) dsa (kOf es) r
  | [], dsa, r, h, ra, _ => by
    cases (show dsa = [] from ra)
    cases h
    exact .nil
  | w :: es, dsa, r, h, ra, ka => by
    obtain ⟨k, v, rfl⟩ := RpE.none_ ra
    obtain ⟨d, t, rfl, g1, _, ⟨y, gy, g3⟩, g4⟩ := ra
    rcases subD_cases h with ⟨e1, rfl⟩ | ⟨u, e, b, e1, e2, e3, rfl⟩
    · exact .miss (getE_none ka.1 kb e1)
    · obtain ⟨j, e', h1, h2, y', ry', h3⟩ := getE_idx ka.1 rb kb e1
      exact .hit j h1 h2 (ih v u e y y' _ _ e2 g3 h3 gy ry') (hits_of ih rb kb e3 g4 ka.tail)
theorem key_eqa {n : Nat} {a b : W} {r : Bool} (h : (match keyOk 8 a && keyOk 8 b with | true => some (keq a b) | false => none) = some r) : eqa 0 a b = some r := by
  unfold eqa
  split at h <;> simp_all
/-- == of lists, of dicts, where the objects are apart -/
theorem rc_lists (hK : F.K = X.K) (I : Inv X pins τ H s) {A : Around} {f : W → W → Option Bool} (hu : A.units + 64 < cLine) {xs ys : List W} {p q : Addr} {us vs : List V} {r : Bool} (ih : ∀ (a b : W) (r : Bool) (x y : V) (v u : Value), f a b = some r → Rp F ρ H a x → Rp F ρ H b y → RelV x v → RelV y u → EqP X.prog X.w A.in1 s v u r)
    (h1 : Rd H p (.lst us)) (h2 : Rps F ρ H xs us) (h3 : Rd H q (.lst vs)) (h4 : Rps F ρ H ys vs) (h : (match decide (xs.length = ys.length) with | true => all2 f xs ys | false => some false) = some r) (E Q : Value → Shared → Prop) (hq : Q (.bool r) s) : wpAny (model X.prog X.w) A (richCompare .Eq (.ref p) (.ref q)) Q E s := by
  obtain ⟨is, k1, r1, e1, _⟩ := lstR I h1
  obtain ⟨js, k2, r2, e2, _⟩ := lstR I h3
  have l1 : s.heap.IsList p is.toArray := ⟨_, e1, rfl, _, rfl⟩
  have l2 : s.heap.IsList q js.toArray := ⟨_, e2, rfl, _, rfl⟩
  have hx : is.length = xs.length := by rw [← r1.length, h2.length]
  have hy : js.length = ys.length := by rw [← r2.length, h4.length]
  split at h
  · rename_i z
    have z := of_decide_eq_true z
    obtain ⟨e, a1, rfl, _⟩ := all2_at h
    have it := items_at (T := fun v u r => EqP X.prog X.w A.in1 s v u r) h2 h4 r1 r2 a1 ih
    refine rcP_lists l1 l2 (by simp; omega) (by omega) it E Q ?_
    rw [List.size_toArray, hx]
    exact hq
  · rename_i z
    have z := of_decide_eq_false z
    cases h
    exact RcAt.lists_lengths l1 l2 (by simp; omega) (by omega) _ _ E Q hq
theorem rc_dicts (hK : F.K = X.K) (hw : F.w = X.w) (I : Inv X pins τ H s) {A : Around} {f : W → W → Option Bool} (hu : A.units + 64 < cLine) {es fs : List W} {p q : Addr} {ds dt : List DictEntry} {r : Bool} (ih : ∀ (a b : W) (r : Bool) (x y : V) (v u : Value), f a b = some r → Rp F ρ H a x → Rp F ρ H b y → RelV x v → RelV y u → EqP X.prog X.w A.in1 s v u r)
    (hp : (p == sysModules) = false) (hq : (q == sysModules) = false) (h1 : SqD F.K H p ds) (h2 : RpE F ρ H es ds) (k1 : KDist es) (h3 : SqD F.K H q dt) (h4 : RpE F ρ H fs dt) (k2 : KDist fs) (h : (match decide (es.length = fs.length) with | true => subD f es fs | false => some false) = some r) (E Q : Value → Shared → Prop) :
    (Q (.bool r) s → wpAny (model X.prog X.w) A (richCompare .Eq (.ref p) (.ref q)) Q E s) ∧ (Q (.bool (!r)) s → wpAny (model X.prog X.w) A (compareOp .NotEq (.ref p) (.ref q)) Q E s) := by
  have Da := DA.of hK hw I h1 h2 k1
  have Db := DA.of hK hw I h3 h4 k2
  have la := h2.len
  have lb := h4.len
  split at h
  · rename_i z
    have z := of_decide_eq_true z
    have hits := hits_of (A := A.in1) ih h4 k2 h h2 k1
    have e : (ds.length == dt.length && r) = r := by rw [la, lb, z]; simp
    exact ⟨fun g => dict_eq_any (r := r) (by omega) hp hq Da Db (fun _ => hits) (by rw [e]; exact g), fun g => dict_ne_any (r := r) (by omega) hp hq Da Db (fun _ => hits) (by rw [e]; exact g)⟩
  · rename_i z
    have z := of_decide_eq_false z
    cases h
    have e : (ds.length == dt.length && false) = false := by simp
    have no : ds.length = dt.length → HitsA X.prog X.w A.in1 s dt (kOf fs) ds (kOf es) false := fun c => absurd (by rw [← la, ← lb]; exact c) z
    exact ⟨fun g => dict_eq_any (r := false) (by omega) hp hq Da Db no (by rw [e]; exact g), fun g => dict_ne_any (r := false) (by omega) hp hq Da Db no (by rw [e]; exact g)⟩
/-- == of items -/
theorem eqo_P (hK : F.K = X.K) (hw : F.w = X.w) (I : Inv X pins τ H s) : ∀ (n : Nat) (A : Around), A.units + (70 + n) < cLine → ∀ (a b : W) (r : Bool) (x y : V) (v u : Value), eqo n a b = some r → Rp F ρ H a x → Rp F ρ H b y → RelV x v → RelV y u → EqP X.prog X.w A s v u r := by
  intro n
  induction n with
  | zero =>
    intro A hu a b r x y v u h ra rb rv ru
    rcases eqo_cases h with ⟨m, _, _, e, _⟩ | ⟨m, _, _, e, _⟩ | h
    · cases e
    · cases e
    · exact (eqa_at hK I 0 A (by omega) a b r x y v u (key_eqa (n := 0) h) ra rb rv ru).eqP
  | succ n ih =>
    intro A hu a b r x y v u h ra rb rv ru
    have h0 := h
    rcases eqo_cases h with ⟨m, xs, ys, e, rfl, rfl, h⟩ | ⟨m, es, fs, e, rfl, rfl, h⟩ | h
    · cases e
      obtain ⟨p, us, rfl, h1, h2⟩ := id ra
      obtain ⟨q, vs, rfl, h3, h4⟩ := id rb
      cases rv
      cases ru
      by_cases hpq : p = q
      · subst hpq
        rw [eqo_same hK I _ _ _ _ _ _ h0 ra rb rfl]
        exact (EqAt.same _).eqP
      · exact eqP_refs hpq (rc_lists hK I (by omega) (ih A.in1 (by show A.units + 1 + _ < _; omega)) h1.rd h2 h3.rd h4 h)
    · cases e
      obtain ⟨p, ds, rfl, g1, h1, _, h2, h3⟩ := id ra
      obtain ⟨q, dt, rfl, g2, h4, _, h5, h6⟩ := id rb
      cases rv
      cases ru
      by_cases hpq : p = q
      · subst hpq
        rw [eqo_same hK I _ _ _ _ _ _ h0 ra rb rfl]
        exact (EqAt.same _).eqP
      · exact eqP_refs hpq fun E Q => (rc_dicts hK hw I (by omega) (ih A.in1 (by show A.units + 1 + _ < _; omega)) g1 g2 (.inr h1) h3 h2 (.inr h4) h6 h5 h E Q).1
    · exact (eqa_at hK I 0 A (by omega) a b r x y v u (key_eqa (n := 0) h) ra rb rv ru).eqP
/-- a value read -/
def RpR (F : Fx) (ρ : List Addr) (H : Hp) (w : W) (v : V) : Prop :=
  (∃ p us xs, w = .lst us ∧ v = .ref p ∧ Rd H p (.lst xs) ∧ Rps F ρ H us xs) ∨ (∃ p es ds, w = .dic es ∧ v = .ref p ∧ (p == sysModules) = false ∧ SqD F.K H p ds ∧ es.length ≤ sizeLine ∧ KDist es ∧ RpE F ρ H es ds) ∨
    ((∀ us, w ≠ .lst us) ∧ (∀ es, w ≠ .dic es) ∧ Rp F ρ H w v)
theorem rd_RpR {M : Store} {w : W} {v : V} (rs : RelS F ρ H M) (r : Rp F ρ H w v) : RpR F ρ H (rd M w) v := by
  have h := rd_rel rs r
  split at h
  · rename_i us q
    obtain ⟨p, xs, h1, h2, h3⟩ := h
    exact .inl ⟨p, us, xs, q, h1, h2, h3⟩
  · rename_i us q
    exact .inr (.inr ⟨fun _ z => by rw [q] at z; (cases z), fun _ z => by rw [q] at z; (cases z), by rw [q]; exact h⟩)
  · rename_i es q
    obtain ⟨p, ds, h1, h2⟩ := h
    exact .inr (.inl ⟨p, es, ds, q, h1, h2⟩)
  · rename_i h1 h2 h3
    exact .inr (.inr ⟨fun us z => h1 us z, fun us z => h3 us z, h⟩)
theorem RpR.key {w : W} {v : V} (h : RpR F ρ H w v) (k : keyOk 8 w = true) : Rp F ρ H w v := by
  rcases h with ⟨_, _, _, e, _⟩ | ⟨_, _, _, e, _⟩ | ⟨_, _, h⟩
  · rw [e] at k; cases k
  · rw [e] at k; cases k
  · exact h
theorem RpR.lst {us : List W} {v : V} (h : RpR F ρ H (.lst us) v) : ∃ p xs, v = .ref p ∧ Rd H p (.lst xs) ∧ Rps F ρ H us xs := by
  rcases h with ⟨p, us', xs, e, h⟩ | ⟨_, _, _, e, _⟩ | ⟨h, _⟩
  · cases e; exact ⟨p, xs, h⟩
  · cases e
  · exact absurd rfl (h us)
theorem RpR.dic {es : List W} {v : V} (h : RpR F ρ H (.dic es) v) : ∃ p ds, v = .ref p ∧ (p == sysModules) = false ∧ SqD F.K H p ds ∧ es.length ≤ sizeLine ∧ KDist es ∧ RpE F ρ H es ds := by
  rcases h with ⟨_, _, _, e, _⟩ | ⟨p, es', ds, e, h⟩ | ⟨_, h, _⟩
  · cases e
  · cases e; exact ⟨p, ds, h⟩
  · exact absurd rfl (h es)
theorem eqo_rc (hK : F.K = X.K) (hw : F.w = X.w) (I : Inv X pins τ H s) {n : Nat} {A : Around} (hu : A.units + (80 + n) < cLine) {a b : W} {r : Bool} {x y : V} {v u : Value} (h : eqo n a b = some r) (ra : RpR F ρ H a x) (rb : RpR F ρ H b y) (rv : RelV x v) (ru : RelV y u) (E Q : Value → Shared → Prop) :
    (Q (.bool r) s → wpAny (model X.prog X.w) A (richCompare .Eq v u) Q E s) ∧ (isDic a = true → Q (.bool (!r)) s → wpAny (model X.prog X.w) A (compareOp .NotEq v u) Q E s) := by
  rcases eqo_cases h with ⟨m, xs, ys, rfl, rfl, rfl, h'⟩ | ⟨m, es, fs, rfl, rfl, rfl, h'⟩ | h'
  · obtain ⟨p, us, rfl, h1, h2⟩ := ra.lst
    obtain ⟨q, vs, rfl, h3, h4⟩ := rb.lst
    cases rv
    cases ru
    exact ⟨rc_lists hK I (by omega) (eqo_P hK hw I m A.in1 (by show A.units + 1 + _ < _; omega)) h1 h2 h3 h4 h' E Q, fun z => by cases z⟩
  · obtain ⟨p, ds, rfl, g1, h1, _, h2, h3⟩ := ra.dic
    obtain ⟨q, dt, rfl, g2, h4, _, h5, h6⟩ := rb.dic
    cases rv
    cases ru
    have := rc_dicts hK hw I (by omega) (eqo_P hK hw I m A.in1 (by show A.units + 1 + _ < _; omega)) g1 g2 h1 h3 h2 h4 h6 h5 h' E Q
    exact ⟨this.1, fun _ => this.2⟩
  · have q := key_eqa (n := 0) h'
    split at h'
    · rename_i z
      obtain ⟨z1, z2⟩ := Bool.and_eq_true_iff.mp z
      have := (eqa_rc hK I (n := 0) (A := A) (by omega) q (.inr (ra.key z1)) (.inr (rb.key z2)) rv ru).1
      exact ⟨fun g => this _ _ E Q g, fun z => by cases a <;> first | (cases z; done) | (simp [keyOk] at z1)⟩
    · cases h'
theorem eqa_ne (hK : F.K = X.K) (I : Inv X pins τ H s) {n : Nat} {A : Around} (hu : A.units + (12 + n) < cLine) {a b : W} {r : Bool} {x y : V} {v u : Value} (h : eqa n a b = some r) (ra : RpR F ρ H a x) (rb : RpR F ρ H b y) (rv : RelV x v) (ru : RelV y u) (E Q : Value → Shared → Prop) (g : Q (.bool (!r)) s) :
    wpAny (model X.prog X.w) A (compareOp .NotEq v u) Q E s := by
  have no : ∀ {a b : W} {es : List W}, eqa n a b = some r → a ≠ .dic es ∧ b ≠ .dic es := fun {a b es} h => by
    rcases eqa_cases h with ⟨_, _, _, _, rfl, rfl, _⟩ | h
    · exact ⟨fun z => (by cases z), fun z => (by cases z)⟩
    · split at h
      · rename_i z
        obtain ⟨z1, z2⟩ := Bool.and_eq_true_iff.mp z
        exact ⟨fun z => by rw [z] at z1; (cases z1), fun z => by rw [z] at z2; (cases z2)⟩
      · cases h
  have cv : ∀ {a : W} {x : V}, (∀ es, a ≠ .dic es) → RpR F ρ H a x → (∃ p us xs, a = .lst us ∧ x = .ref p ∧ Rd H p (.lst xs) ∧ Rps F ρ H us xs) ∨ Rp F ρ H a x := fun {a x} n h => by
    rcases h with h | ⟨_, _, _, e, _⟩ | ⟨_, _, h⟩
    · exact .inl h
    · exact absurd e (n _)
    · exact .inr h
  exact (eqa_rc hK I hu h (cv (fun es => (no h).1) ra) (cv (fun es => (no h).2) rb) rv ru).2 _ _ E Q g
end
end Mp
set_option Elab.async false
set_option linter.all false
set_option maxRecDepth 100000
set_option maxHeartbeats 2000000
namespace Mp
open PySem PySem.Spec PyProof.Rows L2 SeqAt

structure CxOk (F : Fx) (X : Cx) : Prop where
  k : F.K = X.K
  w : F.w = X.w
  un : X.A.units + 200 < cLine
section
variable {F : Fx} {Wx : WX} {X : Cx} {G : Gm} {C : Orc}
theorem contains_any {P : Program} {w : World} {A : Around} {E : Value → Shared → Prop} {s : Shared} {d : Addr} {ds : List DictEntry} {ks : List NestedKey} {k : NestedKey} {key : Value} (hu : A.units + 30 < cLine) (hd : (d == sysModules) = false) (hkey : NestedIs s.heap k key) (hdep : k.depth ≤ 8) (D : DA w s.heap d ds ks) {Q : Bool → Shared → Prop}
    (hnone : (∀ j : Nat, ks[j]? ≠ some k) → ∀ tk, Q false { s with toks := tk }) (hsome : ∀ (j : Nat) (e : DictEntry), ks[j]? = some k → ds[j]? = some e → ∀ tk, Q true { s with toks := tk }) : wpAny (model P w) A (contains (.ref d) key) Q E s := by
  refine wpAny_contains_slot D.ty PySem.F.slot_dict_contains ?_
  refine call_meetsIn PySem.F.slot_dict_contains D.ty PySem.F.entry_dict_contains (PySem.F.args_dict_contains_2 _ _) (S := fun A' R s' => A' = A ∧ s' = s ∧ ((∀ j : Nat, ks[j]? ≠ some k) → ∀ tk, R (.ok (.ret (.bool false))) { s with toks := tk }) ∧ (∀ (j : Nat) (e : DictEntry), ks[j]? = some k → ds[j]? = some e → ∀ tk, R (.ok (.ret (.bool true))) { s with toks := tk })) (fun A' R s' hS => ?_)
    ⟨rfl, rfl, fun h tk => wpAny_truthy_bool (hnone h tk), fun j e h1 h2 tk => wpAny_truthy_bool (hsome j e h1 h2 tk)⟩
  obtain ⟨rfl, rfl, h1, h2⟩ := hS
  show wpAny _ _ (dictGet d key >>= _) _ _ _
  refine wpAny_bind (get_any (by show A'.units + 1 + 20 < _; omega) hkey hdep D (fun hno tk => ?_) fun j e g1 g2 tk => ?_)
  · show wpAny _ _ (Builtin.Dict.pendingKey? d key >>= _) _ _ _
    exact wpAny_bind (wpAny_pendingKey_other hd (wpAny_pure (h1 hno tk)))
  · show wpAny _ _ (ret (.bool true)) _ _ _
    exact wpAny_pure (h2 j e g1 g2 tk)
theorem fin_blE {pins : List (Addr × Obj)} {τ : L2.St} {H : Hp} {s : Shared} {Q : VK} {b : Bool} (I : Inv X pins τ H s) (q : Q (.bl b) H) (tk : Nat) : EP X pins τ Q (.bool b) { s with toks := tk } := ⟨.bl b, H, I.tok tk, rfl, q⟩
/-- in, not in -/
theorem in_all (ok : CxOk F X) {neg : Bool} {pins : List (Addr × Obj)} {s : Shared} {τ : L2.St} {H : Hp} {x y : V} {v u : Value} {Q : VK} {ρ : List Addr} {M : Store} {a b : W} {r : Bool} (I : Inv X pins τ H s) (rx : RelV x v) (ry : RelV y u) (rs : RelS F ρ H M) (ra : Rp F ρ H a x) (rb : Rp F ρ H b y)
    (h : isIn M a b = some r) (q : Q (.bl (if neg then !r else r)) H) : wpAny (model X.prog X.w) X.A (compareOp (if neg then .NotIn else .In) v u) (EP X pins τ Q) X.xe s := by
  have hu := ok.un
  have hk := ok.k
  have hw := ok.w
  unfold isIn at h
  have hb := rd_RpR rs rb
  split at h
  · rename_i ws e
    rcases hb with ⟨_, _, _, z, _⟩ | ⟨_, _, _, z, _⟩ | ⟨_, _, hb⟩
    · rw [e] at z; cases z
    · rw [e] at z; cases z
    · rw [e] at hb
      obtain ⟨p, vs, rfl, h1, h2⟩ := hb
      rw [hk] at h1
      cases ry
      obtain ⟨its, r2, ht, _⟩ := I.tuple h1
      obtain ⟨g, g1, g2⟩ := mem_marks hk I (A := X.A.in1) (by show X.A.units + 1 + 64 < _; omega) h ra rx h2 r2
      obtain ⟨o, o1, o2, n, o3⟩ := ht
      have ht' : s.heap.IsTuple p its.toArray := ⟨o, o1, o2, n, o3⟩
      cases neg with
      | false => exact in_tupleAt g ht' g1 (by rw [g2]; exact fin_blE I q s.toks)
      | true => exact notIn_tupleAt g ht' g1 (by rw [g2]; exact fin_blE I q s.toks)
  · rename_i ws e
    rw [e] at hb
    obtain ⟨p, vs, rfl, h1, h2⟩ := hb.lst
    cases ry
    obtain ⟨its, n, r2, he, _⟩ := lstR I h1
    obtain ⟨g, g1, g2⟩ := mem_marks hk I (A := X.A.in1) (by show X.A.units + 1 + 64 < _; omega) h ra rx h2 r2
    have hl : s.heap.IsList p its.toArray := ⟨_, he, rfl, n, rfl⟩
    cases neg with
    | false => exact in_listAt g hl g1 (by rw [g2]; exact fin_blE I q s.toks)
    | true => exact notIn_listAt g hl g1 (by rw [g2]; exact fin_blE I q s.toks)
  · rename_i es e
    rw [e] at hb
    obtain ⟨p, ds, rfl, g0, h1, _, h2, h3⟩ := hb.dic
    cases ry
    split at h
    · rename_i o e1
      unfold getK at e1
      split at e1
      · rename_i ka
        cases e1
        obtain ⟨n1, d1⟩ := nest hk I a x v 8 ra rx ka
        have D := DA.of hk hw I h1 h3 h2
        have go : ∀ (Q' : Bool → Shared → Prop), (∀ tk, Q' r { s with toks := tk }) → wpAny (model X.prog X.w) X.A (contains (.ref p) v) Q' X.xe s := fun Q' hq => by
          refine contains_any (by omega) g0 n1 d1 D (fun hno tk => ?_) fun j e g1 g2 tk => ?_
          · cases z : getE a es with
            | none => rw [z] at h; cases h; exact hq tk
            | some w =>
              obtain ⟨j, e, z1, _⟩ := getE_idx ka h3 h2 z
              exact absurd z1 (hno j)
          · cases z : getE a es with
            | none => exact absurd g1 (getE_none ka h2 z j)
            | some w => rw [z] at h; cases h; exact hq tk
        cases neg with
        | false =>
          show wpAny _ _ (do return Value.bool (← contains (.ref p) v)) _ _ _
          exact wpAny_bind (go _ fun tk => wpAny_pure (fin_blE I q tk))
        | true =>
          show wpAny _ _ (do return Value.bool (!(← contains (.ref p) v))) _ _ _
          exact wpAny_bind (go _ fun tk => wpAny_pure (fin_blE I q tk))
      · cases e1
    · cases h
  · rename_i z e
    rcases hb with ⟨_, _, _, z', _⟩ | ⟨_, _, _, z', _⟩ | ⟨_, _, hb⟩
    · rw [e] at z'; cases z'
    · rw [e] at z'; cases z'
    · rw [e] at hb
      cases (show y = .str z from hb)
      split at h
      · rename_i c
        cases h
        cases (show x = .str _ from ra)
        cases neg with
        | false => exact op_in_sign pins s τ H _ _ v u Q I rx ry ⟨c, z, rfl, rfl, q⟩
        | true => exact op_notIn_sign pins s τ H _ _ v u Q I rx ry ⟨c, z, rfl, rfl, q⟩
      · cases h
  · cases h
theorem ox_in (ok : CxOk F X) : OpX X F Wx (compareOp .In) (fun a b M => blO (isIn M a b) M) := by
  intro pins s τ H x y v u Q I rx ry ⟨ρ, M, a, b, rs, ra, rb, q⟩
  dsimp only at q
  cases e : isIn M a b with
  | none => rw [e] at q; exact q.elim
  | some r => rw [e] at q; exact in_all (neg := false) ok I rx ry rs ra rb e (oK_ok q rs rfl)
theorem ox_notin (ok : CxOk F X) : OpX X F Wx (compareOp .NotIn) (fun a b M => notO (isIn M a b) M) := by
  intro pins s τ H x y v u Q I rx ry ⟨ρ, M, a, b, rs, ra, rb, q⟩
  dsimp only at q
  cases e : isIn M a b with
  | none => rw [e] at q; exact q.elim
  | some r => rw [e] at q; exact in_all (neg := true) ok I rx ry rs ra rb e (oK_ok q rs rfl)
theorem ox_eq (ok : CxOk F X) (own : OpX X F Wx (compareOp .Eq) fun a b M => match insOf M a with | some _ => eqW G C a b M | none => .fail) : OpX X F Wx (compareOp .Eq) (eqW G C) := by
  intro pins s τ H x y v u Q I rx ry ⟨ρ, M, a, b, rs, ra, rb, q⟩
  cases e : insOf M a with
  | some i => exact own pins s τ H x y v u Q I rx ry ⟨ρ, M, a, b, rs, ra, rb, by dsimp only; rw [e]; exact q⟩
  | none =>
    unfold eqW at q
    rw [e] at q
    dsimp only at q
    cases h : eqo 20 (rd M a) (rd M b) with
    | none => rw [h] at q; exact q.elim
    | some r =>
      rw [h] at q
      exact (eqo_rc ok.k ok.w I (by have := ok.un; omega) h (rd_RpR rs ra) (rd_RpR rs rb) rx ry _ _).1 (fin_blE I (oK_ok q rs rfl) s.toks)
theorem ox_ne (ok : CxOk F X) : OpX X F Wx (compareOp .NotEq) neW := by
  intro pins s τ H x y v u Q I rx ry ⟨ρ, M, a, b, rs, ra, rb, q⟩
  unfold neW at q
  have hu := ok.un
  cases e : isDic (rd M a) with
  | true =>
    rw [e] at q
    dsimp only at q
    cases h : eqo 20 (rd M a) (rd M b) with
    | none => rw [h] at q; exact q.elim
    | some r =>
      rw [h] at q
      exact (eqo_rc ok.k ok.w I (by omega) h (rd_RpR rs ra) (rd_RpR rs rb) rx ry _ _).2 e (fin_blE I (oK_ok q rs rfl) s.toks)
  | false =>
    rw [e] at q
    dsimp only at q
    cases h : eqa 20 (rd M a) (rd M b) with
    | none => rw [h] at q; exact q.elim
    | some r =>
      rw [h] at q
      exact eqa_ne ok.k I (by omega) h (rd_RpR rs ra) (rd_RpR rs rb) rx ry _ _ (fin_blE I (oK_ok q rs rfl) s.toks)
theorem ox_lt : OpX X F Wx (compareOp .Lt) ltW := by
  intro pins s τ H x y v u Q I rx ry ⟨ρ, M, a, b, rs, ra, rb, q⟩
  unfold ltW at q
  split at q
  · cases (show x = .int _ from ra)
    cases (show y = .int _ from rb)
    exact op_lt pins s τ H _ _ v u Q I rx ry ⟨_, _, rfl, rfl, oK_ok q rs rfl⟩
  · exact q.elim
theorem ox_gt : OpX X F Wx (compareOp .Gt) gtW := by
  intro pins s τ H x y v u Q I rx ry ⟨ρ, M, a, b, rs, ra, rb, q⟩
  unfold gtW at q
  split at q
  · cases (show x = .int _ from ra)
    cases (show y = .int _ from rb)
    exact op_gt pins s τ H _ _ v u Q I rx ry ⟨_, _, rfl, rfl, oK_ok q rs rfl⟩
  · exact q.elim
theorem ox_ge : OpX X F Wx (compareOp .GtE) geW := by
  intro pins s τ H x y v u Q I rx ry ⟨ρ, M, a, b, rs, ra, rb, q⟩
  unfold geW at q
  split at q
  · cases (show x = .int _ from ra)
    cases (show y = .int _ from rb)
    exact op_ge pins s τ H _ _ v u Q I rx ry ⟨_, _, rfl, rfl, oK_ok q rs rfl⟩
  · exact q.elim
theorem ox_le : OpX X F Wx (compareOp .LtE) leW := by
  intro pins s τ H x y v u Q I rx ry ⟨ρ, M, a, b, rs, ra, rb, q⟩
  unfold leW at q
  split at q
  · cases (show x = .int _ from ra)
    cases (show y = .int _ from rb)
    exact op_le pins s τ H _ _ v u Q I rx ry ⟨_, _, rfl, rfl, oK_ok q rs rfl⟩
  · exact q.elim
theorem non_iff {ρ : List Addr} {H : Hp} {w : W} {v : V} (r : Rp F ρ H w v) : isNon w = decide (v = .non) := by
  cases w with
  | non => cases (show v = .non from r); rfl
  | bl b => cases (show v = .bl b from r); rfl
  | int b => cases (show v = .int b from r); rfl
  | str b => cases (show v = .str b from r); rfl
  | tup ws => obtain ⟨a, xs, rfl, _⟩ := r; rfl
  | lst ws => obtain ⟨a, xs, rfl, _⟩ := r; rfl
  | dic ws => obtain ⟨a, xs, rfl, _⟩ := r; rfl
  | ins c ws => obtain ⟨a, _, _, _, rfl, _⟩ := r; rfl
  | ref l => obtain ⟨a, _, rfl⟩ := r; rfl
  | _ => exact (show False from r).elim
theorem ox_isnot : OpX X F Wx (compareOp .IsNot) isNotW := by
  intro pins s τ H x y v u Q I rx ry ⟨ρ, M, a, b, rs, ra, rb, q⟩
  unfold isNotW at q
  split at q
  · cases (show y = .non from rb)
    exact op_notN pins s τ H _ _ v u Q I rx ry ⟨rfl, oK_ok q rs (show V.bl _ = .bl _ by rw [non_iff ra])⟩
  · exact q.elim
theorem ox_is : OpX X F Wx (compareOp .Is) isW := by
  intro pins s τ H x y v u Q I rx ry ⟨ρ, M, a, b, rs, ra, rb, q⟩
  unfold isW at q
  split at q
  · cases (show y = .non from rb)
    exact op_isN pins s τ H _ _ v u Q I rx ry ⟨rfl, oK_ok q rs (show V.bl _ = .bl _ by rw [non_iff ra])⟩
  · cases (show x = .bl _ from ra)
    cases (show y = .bl _ from rb)
    exact op_is_bl pins s τ H _ _ v u Q I rx ry ⟨_, _, rfl, rfl, oK_ok q rs rfl⟩
  · exact q.elim
theorem ox_cmp (ok : CxOk F X) (own : OpX X F Wx (compareOp .Eq) fun a b M => match insOf M a with | some _ => eqW G C a b M | none => .fail) (op : CmpOp) : OpX X F Wx (compareOp op) (cmpop G C op) := by
  cases op with
  | Eq => exact ox_eq ok own
  | NotEq => exact ox_ne ok
  | Lt => exact ox_lt
  | LtE => exact ox_le
  | Gt => exact ox_gt
  | GtE => exact ox_ge
  | Is => exact ox_is
  | IsNot => exact ox_isnot
  | In => exact ox_in ok
  | NotIn => exact ox_notin ok
end
end Mp
set_option Elab.async false
set_option linter.all false
set_option maxRecDepth 100000
set_option maxHeartbeats 2000000
namespace Mp
open PySem PySem.Spec PyProof.Rows L2 SeqAt

def lk (Q : VK) : VK := fun v H1 => Q v H1 ∨ ∃ (d : Addr) (o : HO), H1 d = some o ∧ Mut (some o) ∧ ∀ od, Q v (upd H1 d (.frz od o))
abbrev noE : XK := fun _ _ _ => False
def BiOk (X : Cx) (F : Fx) (f : Value) (g : List W → Store → Out W) : Prop := ∃ r, CallR X f r ∧ ∀ ρ M ws vs H Q, RelS F ρ H M → Rps F ρ H ws vs → oK F (Rp F) noE Q ρ H (g ws M) → r vs H (lk Q)
/-- nothing is raised -/
def Calm {α : Type} (o : Out α) : Prop := ∀ c es M, o ≠ .exc c es M
theorem oK_E {α β : Type} {F : Fx} {R : List Addr → Hp → α → β → Prop} {E E' : XK} {Q : β → Hp → Prop} {ρ : List Addr} {H : Hp} {o : Out α} (h : oK F R E Q ρ H o) (n : Calm o) : oK F R E' Q ρ H o := by
  cases o with
  | ok a M => exact h
  | exc c es M => exact absurd rfl (n c es M)
  | fail => exact h
section
variable {F : Fx} {Wx : WX} {X : Cx} {e : Expr} {es : List Expr} {fl : Sg → Store → Out (List W)} {g : List W → Store → Out W} {id T : String} {x : Str} {p pos : Pos}
theorem tE_call {r : List V → Hp → VK → Prop} (n : ∀ ws M, Calm (g ws M)) (h : ∀ ρ M ws vs H Q, RelS F ρ H M → Rps F ρ H ws vs → oK F (Rp F) noE Q ρ H (g ws M) → r vs H (lk Q)) {τ : L2.St} {H : Hp} {Q : VK} (q : tE F Wx (fun σ M => (fl σ M).bind g) τ H Q) :
    tLockV (tCB r (tL F Wx fl)) τ H Q := by
  obtain ⟨ρ, σ, M, rs, rg, q⟩ := q
  exact tL_bind rs rg q fun ρ1 ws M1 vs H1 x1 rs1 rg1 r1 q1 => h ρ1 M1 ws vs H1 Q rs1 r1 (oK_E q1 (n ws M1))
theorem e_bi (hc : BiOk X F (.builtin id) g) (n : ∀ ws M, Calm (g ws M)) (hg : Gl X x) (hm : X.mg x = none) (hv : bootBuiltins x = some (.builtin id)) (ha : PA X (e :: es) (tL F Wx fl)) (hn : x ≠ "__name__") (hdb : (x == ("__debug__" : Str)) = false)
    (he : starEach (e :: es) X.env = (false, eval e X.env) :: starEach es X.env) (hpl : (backTo pos (starEach es X.env)).any (·.1) = false) : PE X (.Call (.Name x p) (e :: es) [] pos) (tE F Wx fun σ M => (fl σ M).bind g) := by
  obtain ⟨r, h1, h2⟩ := hc
  exact PE.weak (PE.lockV (pe_callB h1 hg hm hv ha hn hdb he hpl)) fun τ H Q q => tE_call n h2 q
theorem e_ty (hc : BiOk X F (.type T) g) (n : ∀ ws M, Calm (g ws M)) (hg : Gl X x) (hm : X.mg x = none) (hv : bootBuiltins x = some (.type T)) (ha : PA X (e :: es) (tL F Wx fl)) (hn : x ≠ "__name__") (hdb : (x == ("__debug__" : Str)) = false)
    (he : starEach (e :: es) X.env = (false, eval e X.env) :: starEach es X.env) (hpl : (backTo pos (starEach es X.env)).any (·.1) = false) : PE X (.Call (.Name x p) (e :: es) [] pos) (tE F Wx fun σ M => (fl σ M).bind g) := by
  obtain ⟨r, h1, h2⟩ := hc
  exact PE.weak (PE.lockV (pe_callTy h1 hg hm hv ha hn hdb he hpl)) fun τ H Q q => tE_call n h2 q
theorem BiOk.weak {f : Value} {g g' : List W → Store → Out W} (h : BiOk X F f g) (k : ∀ ws M, g' ws M = g ws M ∨ g' ws M = .fail) : BiOk X F f g' := by
  obtain ⟨r, h1, h2⟩ := h
  refine ⟨r, h1, fun ρ M ws vs H Q rs rr q => ?_⟩
  rcases k ws M with e | e
  · rw [e] at q; exact h2 ρ M ws vs H Q rs rr q
  · rw [e] at q; exact q.elim
theorem Rps.of1 {ρ : List Addr} {H : Hp} {w : W} {vs : List V} (h : Rps F ρ H [w] vs) : ∃ v, vs = [v] ∧ Rp F ρ H w v := by
  obtain ⟨v, r, rfl, h1, h2⟩ := h
  cases (show r = [] from h2)
  exact ⟨v, rfl, h1⟩
theorem Rps.of2 {ρ : List Addr} {H : Hp} {w u : W} {vs : List V} (h : Rps F ρ H [w, u] vs) : ∃ v v', vs = [v, v'] ∧ Rp F ρ H w v ∧ Rp F ρ H u v' := by
  obtain ⟨v, r, rfl, h1, h2⟩ := h
  obtain ⟨v', rfl, h3⟩ := Rps.of1 h2
  exact ⟨v, v', rfl, h1, h3⟩

/-! ### len -/
theorem len_dict_any {P : Program} {w : World} {A : Around} {E : Value → Shared → Prop} {s : Shared} {d : Addr} {ds : List DictEntry} {ep : Nat} {Q : Value → Shared → Prop} (hd : (d == sysModules) = false) (hm : s.heap.get? d = some (dObj ds ep)) (hfit : (ds.length : Int) < 2 ^ 63)
    (h : ∀ tk, Q (.int ds.length tk) { s with toks := tk + 1 }) : wpAny (model P w) A (call (.builtin "len") [.ref d]) Q E s := by
  have ty : s.TypeIs (.ref d) "dict" := ⟨_, hm, rfl⟩
  have raw : s.heap.DictRaw d ds.toArray ep := ⟨_, hm, ⟨rfl, rfl, rfl⟩, rfl⟩
  refine Calls.call_function_entry kind_len plain_len entry_len (args_len1 _) ?_
  unfold Builtin.«len»
  refine wpAny_bind (m := oneArg "len" _) (wpAny_pure ?_)
  refine wpAny_bind (m := callSpecial? (.ref d) (Str.ofString "__len__")) (wpAny_callSpecial?_slot (name := Str.ofString "__len__") ty PySem.F.slot_dict_len (call_len_raw hd raw ?_))
  refine wpAny_bind (wpAny_holding (wpAny_pure ?_))
  refine wpAny_bind (wpAny_letGo ?_)
  simp only [List.size_toArray]
  show wpAny _ _ (if ((ds.length : Nat) : Int) < 0 then _ else _) _ _ _
  rw [if_neg (by omega)]
  show wpAny _ _ (if ((ds.length : Nat) : Int) ≥ 2 ^ 63 then _ else _) _ _ _
  rw [if_neg (by omega)]
  exact wpAny_bind (wpAny_mkInt (wpAny_pure ⟨_, rfl, h _⟩))
theorem call_lenDict (hK : F.K = X.K) : CallR X (.builtin "len") (fun xs H Q => ∃ p ds, xs = [.ref p] ∧ (p == sysModules) = false ∧ SqD F.K H p ds ∧ ds.length ≤ sizeLine ∧ Q (.int ds.length) H) := by
  intro pins s σ H xs us Q I r h
  obtain ⟨p, ds, rfl, h0, hq, hz, q⟩ := h
  obtain ⟨u, rfl, rx⟩ := vals1 r
  cases rx
  obtain ⟨ep, e⟩ := dict_at hK I hq
  have hn := line63
  exact len_dict_any h0 e (by omega) fun tk => ⟨.int ds.length, H, I.tok _, ⟨_, rfl⟩, q⟩
def gLen : List W → Store → Out W := fun ws M => match ws with
  | [w] => match lenOf M w with
    | some n => .ok (.int n) M
    | none => .fail
  | _ => .fail
theorem bi_len (hK : F.K = X.K) : BiOk X F (.builtin "len") gLen := by
  refine ⟨_, (call_lenDict (F := F) hK).or (call_len_seq.or call_len_str), fun ρ M ws vs H Q rs rr q => ?_⟩
  unfold gLen at q
  split at q
  · rename_i w
    obtain ⟨v, rfl, r⟩ := Rps.of1 rr
    have hr := rd_RpR rs r
    unfold lenOf at q
    split at q
    · rename_i n e
      split at e
      · rename_i us z
        cases e
        rw [z] at hr
        obtain ⟨p, xs, rfl, h1, h2⟩ := hr.lst
        exact .inr (.inl ⟨p, xs, rfl, .inl (.inl h1), .inl (by rw [h2.length]; exact oK_ok q rs rfl)⟩)
      · rename_i us z
        cases e
        rcases hr with ⟨_, _, _, z', _⟩ | ⟨_, _, _, z', _⟩ | ⟨_, _, hr⟩
        · rw [z] at z'; cases z'
        · rw [z] at z'; cases z'
        · rw [z] at hr
          obtain ⟨p, xs, rfl, h1, h2⟩ := hr
          rw [hK] at h1
          exact .inr (.inl ⟨p, xs, rfl, .inr h1, .inl (by rw [h2.length]; exact oK_ok q rs rfl)⟩)
      · rename_i us z
        cases e
        rw [z] at hr
        obtain ⟨p, ds, rfl, h0, h1, h2, _, h3⟩ := hr.dic
        exact .inl ⟨p, ds, rfl, h0, h1, by rw [h3.len]; exact h2, .inl (by rw [h3.len]; exact oK_ok q rs rfl)⟩
      · rename_i us z
        rcases hr with ⟨_, _, _, z', _⟩ | ⟨_, _, _, z', _⟩ | ⟨_, _, hr⟩
        · rw [z] at z'; cases z'
        · rw [z] at z'; cases z'
        · rw [z] at hr
          cases (show v = .str us from hr)
          split at e
          · rename_i hz
            cases e
            exact .inr (.inr ⟨us, rfl, lenOk_le hz, .inl (oK_ok q rs rfl)⟩)
          · cases e
      · cases e
    · exact q.elim
  · exact q.elim

/-! ### int, max, min, all, any -/
def g1 (f : W → Store → Out W) : List W → Store → Out W := fun ws M => match ws with
  | [w] => f w M
  | _ => .fail
def g2 (f : W → W → Store → Out W) : List W → Store → Out W := fun ws M => match ws with
  | [w, u] => f w u M
  | _ => .fail
theorem bi1 {f : Value} {k : W → Store → Out W} {r : List V → Hp → VK → Prop} (hc : CallR X f r) (h : ∀ ρ M w v H Q, RelS F ρ H M → Rp F ρ H w v → oK F (Rp F) noE Q ρ H (k w M) → r [v] H (lk Q)) : BiOk X F f (g1 k) := by
  refine ⟨r, hc, fun ρ M ws vs H Q rs rr q => ?_⟩
  unfold g1 at q
  split at q
  · obtain ⟨v, rfl, r1⟩ := Rps.of1 rr
    exact h ρ M _ v H Q rs r1 q
  · exact q.elim
theorem bi2 {f : Value} {k : W → W → Store → Out W} {r : List V → Hp → VK → Prop} (hc : CallR X f r) (h : ∀ ρ M w u v v' H Q, RelS F ρ H M → Rp F ρ H w v → Rp F ρ H u v' → oK F (Rp F) noE Q ρ H (k w u M) → r [v, v'] H (lk Q)) : BiOk X F f (g2 k) := by
  refine ⟨r, hc, fun ρ M ws vs H Q rs rr q => ?_⟩
  unfold g2 at q
  split at q
  · obtain ⟨v, v', rfl, r1, r2⟩ := Rps.of2 rr
    exact h ρ M _ _ v v' H Q rs r1 r2 q
  · exact q.elim
theorem bi_int : BiOk X F (.type "int") (g1 intW) := by
  refine bi1 call_int1 fun ρ M w v H Q rs r q => ?_
  unfold intW at q
  split at q
  · cases (show v = .int _ from r)
    exact .inl ⟨_, rfl, .inl (oK_ok q rs rfl)⟩
  · rename_i b
    cases (show v = .bl _ from r)
    refine .inr ⟨b, rfl, .inl (oK_ok q rs ?_)⟩
    cases b <;> rfl
  · exact q.elim
theorem bi_max (hc : X.calm = true) : BiOk X F (.builtin "max") (g2 maxW) := by
  refine bi2 (call_max2 hc) fun ρ M w u v v' H Q rs r r' q => ?_
  unfold maxW at q
  split at q
  · rename_i i j
    cases (show v = .int _ from r)
    cases (show v' = .int _ from r')
    refine ⟨i, j, rfl, .inl (oK_ok q rs ?_)⟩
    by_cases z : i < j
    · simp [z, Rp]
    · simp [z, Rp]
  · exact q.elim
theorem bi_min (hc : X.calm = true) : BiOk X F (.builtin "min") (g2 minW) := by
  refine bi2 (call_min2 hc) fun ρ M w u v v' H Q rs r r' q => ?_
  unfold minW at q
  split at q
  · rename_i i j
    cases (show v = .int _ from r)
    cases (show v' = .int _ from r')
    refine ⟨i, j, rfl, .inl (oK_ok q rs ?_)⟩
    by_cases z : j < i
    · simp [z, Rp]
    · simp [z, Rp]
  · exact q.elim
theorem bools_rel {ρ : List Addr} {H : Hp} : ∀ {ws : List W} {bs : List Bool} {vs : List V}, boolsOf ws = some bs → Rps F ρ H ws vs → vs = bs.map V.bl
  | [], bs, vs, h, r => by
    cases h
    cases (show vs = [] from r)
    rfl
  | w :: ws, bs, vs, h, r => by
    obtain ⟨v, t, rfl, h1, h2⟩ := r
    cases w with
    | bl b =>
      unfold boolsOf at h
      split at h
      · rename_i cs e
        cases h
        rw [bools_rel e h2, show v = .bl b from h1]
        rfl
      · cases h
    | _ => cases h
theorem lst_in {ρ : List Addr} {H : Hp} {M : Store} {w : W} {v : V} {ws : List W} (rs : RelS F ρ H M) (r : Rp F ρ H w v) (e : lstOf M w = some ws) : ∃ p xs, v = .ref p ∧ SqL X.K H p xs ∧ Rps F ρ H ws xs := by
  obtain ⟨p, xs, h1, h2, h3⟩ := lstOf_rel rs r e
  exact ⟨p, xs, h1, .inl h2, h3⟩
theorem bi_all (hc : X.calm = true) : BiOk X F (.builtin "all") (g1 allW) := by
  refine bi1 (cr_all hc) fun ρ M w v H Q rs r q => ?_
  unfold allW at q
  split at q
  · rename_i ws e
    obtain ⟨p, xs, rfl, h1, h2⟩ := lst_in (X := X) rs r e
    unfold allB at q
    split at q
    · rename_i bs e3
      cases bools_rel e3 h2
      exact ⟨p, bs, rfl, h1, .inl (oK_ok q rs rfl)⟩
    · exact q.elim
  · exact q.elim
theorem bi_any (hc : X.calm = true) : BiOk X F (.builtin "any") (g1 anyW) := by
  refine bi1 (cr_any hc) fun ρ M w v H Q rs r q => ?_
  unfold anyW at q
  split at q
  · rename_i ws e
    obtain ⟨p, xs, rfl, h1, h2⟩ := lst_in (X := X) rs r e
    unfold anyB at q
    split at q
    · rename_i bs e3
      cases bools_rel e3 h2
      exact ⟨p, bs, rfl, h1, .inl (oK_ok q rs rfl)⟩
    · exact q.elim
  · exact q.elim

/-! ### list, tuple -/
theorem keys_rel {ρ : List Addr} {H : Hp} : ∀ {es : List W} {ds : List DictEntry}, RpE F ρ H es ds → ∃ vs, Rps F ρ H (keysOf es) vs ∧ Vals vs (ds.map (·.key))
  | [], ds, h => by
    cases (show ds = [] from h)
    exact ⟨[], rfl, .nil⟩
  | w :: es, ds, h => by
    obtain ⟨k, v, rfl⟩ := RpE.none_ h
    obtain ⟨d, t, rfl, _, ⟨x, h1, h2⟩, _, h3⟩ := h
    obtain ⟨vs, r1, r2⟩ := keys_rel h3
    exact ⟨x :: vs, ⟨x, vs, rfl, h2, r1⟩, .cons h1 r2⟩
/-- list(d) -/
theorem call_listDict (hK : F.K = X.K) (hc : X.calm = true) : CallR X (.type "list") (fun xs H Q => ∃ p ds vs, xs = [.ref p] ∧ (p == sysModules) = false ∧ SqD F.K H p ds ∧ ds.length ≤ sizeLine ∧ Vals vs (ds.map (·.key)) ∧ ∀ l, H l = none → Q (.ref l) (upd H l (.lst vs))) := by
  intro pins s σ H xs us Q I r h
  obtain ⟨p, ds, vs, rfl, h0, hq, hz, hv, q⟩ := h
  obtain ⟨u, rfl, rx⟩ := vals1 r
  cases rx
  obtain ⟨ep, e⟩ := dict_at hK I hq
  refine PySem.W.kdl_call (kdl_raw (o := dObj ds ep) h0 ⟨rfl, rfl, rfl⟩ rfl) (I.ok.hd hc) e (by simpa using hz) fun h' tk acc c kp eo hi => ?_
  have ea : acc.toList = ds.map (·.key) := by
    apply List.ext_getElem?
    intro j
    have hs : acc.toList.length = ds.length := by simpa using hi.1
    by_cases hj : j < ds.length
    · have hj' : j < acc.toList.length := by omega
      rw [List.getElem?_eq_getElem hj']
      obtain ⟨en, e1, e2⟩ := hi.2 j _ (by rw [← Array.getElem?_toList]; exact List.getElem?_eq_getElem hj')
      have e1 : ds[j]? = some en := by simpa using e1
      rw [e2, List.getElem?_map, e1]
      rfl
    · rw [List.getElem?_eq_none (by omega), List.getElem?_eq_none (by simpa using hj)]
  have hl : vs.length = ds.length := by
    have := hv.length
    simpa using this
  refine ⟨.ref s.heap.objs.size, _, I.laid (o := .lst vs) (t' := tk) kp (Nat.le_refl _) ⟨by omega, ds.map (·.key), c, hv, ?_⟩, rfl, q _ (I.hok.fresh (Nat.le_refl _))⟩
  rw [eo, ← ea]
theorem bi_list (fz : Bool) (hK : F.K = X.K) (hc : X.calm = true) : BiOk X F (.type "list") (g1 (listW fz)) := by
  refine bi1 ((call_listDict (F := F) hK hc).or call_list_of) fun ρ M w v H Q rs r q => ?_
  unfold listW at q
  have hr := rd_RpR rs r
  unfold takeOf at q
  split at q
  · rename_i ws e
    split at e
    · rename_i us z
      cases e
      rw [z] at hr
      obtain ⟨p, xs, rfl, h1, h2⟩ := hr.lst
      exact .inr ⟨p, xs, rfl, .inl (.inl h1), (new_lst rs h2 q).2⟩
    · rename_i us z
      cases e
      rcases hr with ⟨_, _, _, z', _⟩ | ⟨_, _, _, z', _⟩ | ⟨_, _, hr⟩
      · rw [z] at z'; cases z'
      · rw [z] at z'; cases z'
      · rw [z] at hr
        obtain ⟨p, xs, rfl, h1, h2⟩ := hr
        rw [hK] at h1
        exact .inr ⟨p, xs, rfl, .inr h1, (new_lst rs h2 q).2⟩
    · rename_i us z
      cases e
      rw [z] at hr
      obtain ⟨p, ds, rfl, h0, h1, h2, _, h3⟩ := hr.dic
      obtain ⟨vs, r1, r2⟩ := keys_rel h3
      exact .inl ⟨p, ds, vs, rfl, h0, h1, by rw [h3.len]; exact h2, r2, (new_lst rs r1 q).2⟩
    · cases e
  · exact q.elim
theorem bi_tuple (hK : F.K = X.K) : BiOk X F (.type "tuple") (g1 tupleW) := by
  refine bi1 call_tuple_of fun ρ M w v H Q rs r q => ?_
  unfold tupleW at q
  split at q
  · rename_i ws e
    obtain ⟨p, xs, rfl, h1, h2⟩ := seqOf_rel rs r e
    refine ⟨p, xs, rfl, ?_⟩
    rcases h1 with h1 | h1
    · refine .inr ⟨by rw [← hK]; exact h1, .inl ?_⟩
      unfold mkT at q
      split at q
      · exact oK_ok q rs ⟨p, xs, rfl, h1, h2⟩
      · exact q.elim
    · exact .inl ⟨.inl h1, fun l hl => .inl ((new_tup rs h2 q).2 l hl)⟩
  · exact q.elim
end
end Mp
set_option Elab.async false
set_option linter.all false
set_option maxRecDepth 100000
set_option maxHeartbeats 2000000
namespace Mp
open PySem PySem.Spec PyProof.Rows L2 SeqAt

def tyName : Ty → String
  | .non => "NoneType" | .int => "int" | .bool => "bool" | .str => "str" | .tuple => "tuple" | .list => "list" | .dict => "dict" | .cls _ => ""
theorem isTab_ok (K : PySem.W.Frag) {a b : Ty} (ha : ∀ c, a ≠ .cls c) (hb : ∀ c, b ≠ .cls c) : PySem.W.kitOne K (.type (tyName a)) (.type (tyName b)) = some (isTab a b) := by
  cases a with
  | cls c => exact absurd rfl (ha c)
  | _ => cases b with
    | cls c => exact absurd rfl (hb c)
    | _ => kernel_rfl
section
variable {F : Fx} {Wx : WX} {X : Cx}
/-- what the library's rules ask -/
theorem kitW (hK : F.K = X.K) {pins : List (Addr × Obj)} {τ : L2.St} {H : Hp} {s : Shared} {ρ : List Addr} {w : W} {x : V} {u : Value} {a : Ty} (I : Inv X pins τ H s) (h : RpR F ρ H w x) (rx : RelV x u) (e : tagOf w = some a) :
    ∃ P : Heap → Prop, PySem.W.KitX X.K u (.type (tyName a)) P ∧ P s.heap ∧ u ≠ .builtin "__main__.__loader__#opaque" := by
  rcases h with ⟨p, us, xs, rfl, rfl, h1, h2⟩ | ⟨p, es, ds, rfl, rfl, h0, h1, _⟩ | ⟨n1, n2, r⟩
  · cases e
    cases rx
    obtain ⟨its, n, r, e, _⟩ := lstR I h1
    exact ⟨_, PySem.W.kitx_list, ⟨_, e, rfl⟩, fun z => nomatch z⟩
  · cases e
    cases rx
    obtain ⟨ep, e⟩ := dict_at hK I h1
    exact ⟨_, PySem.W.kitx_dict, ⟨_, e, rfl⟩, fun z => nomatch z⟩
  · cases w with
    | non => cases e; cases (show x = .non from r); cases rx; exact ⟨_, PySem.W.kitx_none, True.intro, fun z => nomatch z⟩
    | bl y => cases e; cases (show x = .bl y from r); cases rx; exact ⟨_, PySem.W.kitx_bool, True.intro, fun z => nomatch z⟩
    | int y => cases e; cases (show x = .int y from r); obtain ⟨t, rfl⟩ := rx; exact ⟨_, PySem.W.kitx_int, True.intro, fun z => nomatch z⟩
    | str y => cases e; cases (show x = .str y from r); obtain ⟨t, rfl⟩ := rx; exact ⟨_, PySem.W.kitx_str, True.intro, fun z => nomatch z⟩
    | tup ws =>
      cases e
      obtain ⟨p, xs, rfl, h1, _⟩ := r
      rw [hK] at h1
      cases rx
      obtain ⟨its, _, ⟨o, o1, o2, _⟩, _⟩ := I.tuple h1
      exact ⟨_, PySem.W.kitx_tuple, ⟨o, o1, o2⟩, fun z => nomatch z⟩
    | lst ws => exact absurd rfl (n1 ws)
    | dic ws => exact absurd rfl (n2 ws)
    | _ => cases e
/-- the facts of an own class: what is no instance of it, what is -/
structure IsiF (F : Fx) (X : Cx) (c : Nat) (C : Addr) : Prop where
  at_ : F.cA c = some C
  slt : ∃ ns, F.sl c = some ns
  no : ∀ a : Ty, (∀ d, a ≠ .cls d) → PySem.W.kitOne X.K (.type (tyName a)) (.ref C) = some false
  sc : SlX.SCls X.K C
  si : SlX.SIsi X.K C
theorem tag_cls {w : W} {a : Ty} (h : tagOf w = some a) : ∀ c, a ≠ .cls c := by
  intro c
  cases w <;> first | (cases h; exact fun z => nomatch z) | cases h
/-- a slotted instance that stands, or is frozen -/
def SltR (H : Hp) (a C dx : Addr) (vs : List (Option V)) : Prop := SlX.Slt H a C dx vs ∨ ∃ o, H a = some (.frz o (SlX.SlO a C dx vs)) ∧ H dx = some (.xd [])
theorem sltR_inst {pins : List (Addr × Obj)} {τ : L2.St} {H : Hp} {s : Shared} {a C dx : Addr} {vs : List (Option V)} (I : Inv X pins τ H s) (h : SltR H a C dx vs) : ∃ (sl : Array (Option Value)) (od : Obj), SlX.SlR vs sl ∧ PySem.W.InstAt s.heap a { PySem.W.instObj C dx with slots := sl } C (some od) ∧ ∀ f, PySem.W.lookIn f od = some Option.none := by
  rcases h with h | ⟨o, h1, h2⟩
  · exact SlX.slt_inst I h
  · obtain ⟨⟨sl, e, r⟩, _, _⟩ := (show _ ∧ ObjOk X.prog X.w H s.heap a (SlX.SlO a C dx vs) from I.hok a _ h1).2
    obtain ⟨mA, n, r2⟩ := I.hok dx _ h2
    obtain ⟨od, ho, hl⟩ := lookIn_ns n
    exact ⟨sl, od, r, ⟨e, rfl, rfl, ho⟩, fun f => by rw [hl f, RelO.none_of (r2 f)]⟩
/-- isinstance(x, T), T a built-in type -/
def rIsB (F : Fx) (T : String) (t : Ty) : List V → Hp → VK → Prop := fun vs H Q => ∃ ρ M w x b, RelS F ρ H M ∧ Rp F ρ H w x ∧ vs = [x, .ty T] ∧ isTy M w t = some b ∧ Q (.bl b) H
theorem call_isB (hK : F.K = X.K) {t : Ty} (ht : ∀ c, t ≠ .cls c) : CallR X (.builtin "isinstance") (rIsB F (tyName t) t) := by
  intro pins s σ H xs us Q I r ⟨ρ, M, w, x, b, rs, rw', e, h, q⟩
  subst e
  obtain ⟨u1, u2, rfl, r1, r2⟩ := vals2 r
  cases (show u2 = .type (tyName t) from r2)
  have e2 : ∃ a, tagOf (rd M w) = some a ∧ b = isTab a t := by
    cases t with
    | cls c => exact absurd rfl (ht c)
    | _ =>
      simp only [isTy] at h
      split at h
      · rename_i a e
        cases h
        exact ⟨a, e, rfl⟩
      · cases h
  obtain ⟨a, e, rfl⟩ := e2
  obtain ⟨P, Z, p, hx⟩ := kitW hK I (rd_RpR rs rw') r1 e
  exact PySem.W.kia_one Z I.kIn p (isTab_ok X.K (tag_cls e) ht) hx fun tk => ⟨.bl _, H, I.tok tk, rfl, q⟩
/-- isinstance(x, C), C an own class -/
def rIsC (F : Fx) (C : Addr) (c : Nat) : List V → Hp → VK → Prop := fun vs H Q => ∃ ρ M w x b, RelS F ρ H M ∧ Rp F ρ H w x ∧ vs = [x, .ref C] ∧ isTy M w (.cls c) = some b ∧ Q (.bl b) H
theorem call_isC (hK : F.K = X.K) {c : Nat} {C : Addr} (f : IsiF F X c C) : CallR X (.builtin "isinstance") (rIsC F C c) := by
  intro pins s σ H xs us Q I r ⟨ρ, M, w, x, b, rs, rw', e, h, q⟩
  subst e
  have r0 := r
  obtain ⟨u1, u2, rfl, r1, r2⟩ := vals2 r
  cases (show u2 = .ref C from r2)
  have hr := rd_RpR rs rw'
  have cs : ∀ u : W, (match u with | .ins d _ => (match Nat.beq c d with | true => some true | false => none) | u => (match tagOf u with | some _ => some false | none => none)) = some b → (∃ d es, u = .ins d es ∧ c = d ∧ b = true) ∨ ∃ a, tagOf u = some a ∧ b = false := fun u h => by
    cases u with
    | ins d es =>
      cases z : Nat.beq c d with
      | true =>
        simp only [z] at h
        exact .inl ⟨d, es, rfl, Nat.eq_of_beq_eq_true z, (Option.some.inj h).symm⟩
      | false => simp only [z] at h; cases h
    | kv _ _ => cases h
    | ref _ => cases h
    | clo _ _ => cases h
    | _ => exact .inr ⟨_, rfl, (Option.some.inj h).symm⟩
  rcases cs (rd M w) h with ⟨d, es, z, rfl, rfl⟩ | ⟨a, e, rfl⟩
  · rcases hr with ⟨_, _, _, z', _⟩ | ⟨_, _, _, z', _⟩ | ⟨_, _, hr⟩
    · rw [z] at z'; cases z'
    · rw [z] at z'; cases z'
    · rw [z] at hr
      obtain ⟨a, D, dx, o, rfl, h1, hr⟩ := hr
      obtain ⟨vs, ns, _, h3, h4, _⟩ : ∃ (vs : List (Option V)) (ns : List Str), F.sl c = some ns ∧ H a = some (.frz o (SlX.SlO a D dx vs)) ∧ H dx = some (.xd []) ∧ RpS F ρ H ns es vs := by
        rcases hr with hr | ⟨fs, h2, _⟩
        · exact hr
        · obtain ⟨ns, h3⟩ := f.slt
          rw [h3] at h2
          cases h2
      rw [f.at_] at h1
      cases h1
      cases r1
      obtain ⟨sl, od, _, J, _⟩ := sltR_inst I (.inr ⟨o, h3, h4⟩)
      exact PySem.W.kia_one (OwX.kitx_slt f.sc.ic (f.sc.get _) f.si.ca f.si.cn f.si.ct f.si.cm) I.kIn J (by simp [PySem.W.kitOne]) (fun z => nomatch z) fun tk => ⟨.bl true, H, I.tok _, rfl, q⟩
  · obtain ⟨P, Z, p, hx⟩ := kitW hK I hr r1 e
    exact PySem.W.kia_one Z I.kIn p (f.no a (tag_cls e)) hx fun tk => ⟨.bl _, H, I.tok tk, rfl, q⟩
end
end Mp
set_option Elab.async false
set_option linter.all false
set_option maxRecDepth 100000
set_option maxHeartbeats 2000000
namespace Mp
open PySem PySem.Spec PyProof.Rows L2 SeqAt

section
variable {F : Fx} {Wx : WX} {X : Cx} {a b : Expr} {f g : FE} {pos : Pos}
theorem getItem_any {P : Program} {w : World} {A : Around} {E : Value → Shared → Prop} {s : Shared} {d : Addr} {ds : List DictEntry} {ks : List NestedKey} {k : NestedKey} {key : Value} (hu : A.units + 30 < cLine) (hkey : NestedIs s.heap k key) (hdep : k.depth ≤ 8) (D : DA w s.heap d ds ks) {Q : Value → Shared → Prop}
    (hthere : ¬ ∀ j : Nat, ks[j]? ≠ some k) (hsome : ∀ (j : Nat) (e : DictEntry), ks[j]? = some k → ds[j]? = some e → ∀ tk, Q e.val { s with toks := tk }) : wpAny (model P w) A (getItem (.ref d) key) Q E s := by
  unfold getItem
  try with_reducible refine wpAny_holding ?_
  refine wpAny_bind (wpAny_sequenceKey D.ty (by decide) ?_)
  refine wpAny_bind (wpAny_callSpecial?_slot (name := Str.ofString "__getitem__") D.ty slot_dict_getitem
    (wpAny_call_entry slot_dict_getitem D.ty entry_dict_getitem ?_ (args_dict_getitem _ _)))
  show wpAny _ _ (dictGet d key >>= _) _ _ s
  refine wpAny_bind (get_any (by show A.units + 1 + 20 < _; omega) hkey hdep D (fun hno => absurd hno hthere) fun j e g1 g2 tk => ?_)
  exact wpAny_pure ⟨e.val, rfl, wpAny_pure (hsome j e g1 g2 tk)⟩
def rIxW (F : Fx) : R2 := fun x y H Q => ∃ ρ M w u, RelS F ρ H M ∧ Rp F ρ H w x ∧ Rp F ρ H u y ∧ oK F (Rp F) noE Q ρ H (ixW w u M)
theorem ixN_of {i : Int} {n k : Nat} (h : ixOf i n = some k) : ixN n i = some k := by
  unfold ixOf at h
  unfold ixN
  split at h
  · rename_i z
    rw [if_pos (of_decide_eq_true z)]
    split at h
    · rename_i z2
      rw [if_pos (of_decide_eq_true z2)]
      exact h
    · cases h
  · rename_i z
    rw [if_neg (of_decide_eq_false z)]
    split at h
    · rename_i z2
      have := of_decide_eq_true z2
      rw [if_pos (by omega)]
      exact h
    · cases h
theorem ix_all (ok : CxOk F X) : IxR X (rIxW F) := by
  intro value slice pins s σ H x y v u Q I rx ry ⟨ρ, M, w, k, rs, rw', rk, q⟩ hs
  have hu := ok.un
  have hK := ok.k
  have hr := rd_RpR rs rw'
  unfold ixW at q
  split at q
  · rename_i es e
    rw [e] at hr
    obtain ⟨p, ds, rfl, h0, h1, h2, h3, h4⟩ := hr.dic
    split at q
    · rename_i z e1
      unfold getK at e1
      split at e1
      · rename_i ka
        have e1 := Option.some.inj e1
        cases rx
        obtain ⟨n1, d1⟩ := nest hK I k y u 8 rk ry ka
        have D := DA.of hK ok.w I h1 h4 h3
        refine tail_any D.ty slot_dict_getitem.lookup (getItem_any (by omega) n1 d1 D (fun hno => ?_) fun j en g1 g2 tk => ?_) hs
        · obtain ⟨j, en, z1, _⟩ := getE_idx ka h4 h3 e1
          exact hno j z1
        · obtain ⟨y', r1, r2⟩ := getE_some ka h4 h3 e1 j en g1 g2
          exact ⟨y', H, I.tok tk, r1, oK_ok q rs r2⟩
      · cases e1
    · exact q.elim
  · split at q
    · rename_i ws i e1
      cases (show y = .int _ from rk)
      split at q
      · rename_i n e2
        split at q
        · rename_i z e3
          obtain ⟨p, xs, rfl, h1, h2⟩ := seqOf_rel rs rw' e1
          obtain ⟨vz, e4, rz⟩ := Rps.get h2 e3
          have at_ : atI xs i = some vz := by
            unfold atI
            rw [h2.length, ixN_of e2]
            exact e4
          rcases h1 with h1 | h1
          · rw [hK] at h1
            exact ix_tup value slice pins s σ H _ _ v u Q I rx ry ⟨p, xs, i, vz, rfl, rfl, h1, at_, oK_ok q rs rz⟩ hs
          · exact ix_list value slice pins s σ H _ _ v u Q I rx ry ⟨p, xs, i, vz, rfl, rfl, .inl h1, at_, oK_ok q rs rz⟩ hs
        · exact q.elim
      · exact q.elim
    · exact q.elim
theorem ixW_calm (w u : W) (M : Store) : Calm (ixW w u M) := by
  intro c es M' h
  unfold ixW at h
  repeat' split at h
  all_goals cases h
theorem e_ix (ok : CxOk F X) (ha : PE X a (tE F Wx f)) (hb : PE X b (tE F Wx g)) (hs : PlainIx b) :
    PE X (.Subscript a b pos) (tE F Wx fun σ M => (f σ M).bind fun x M1 => (g σ M1).bind fun y M2 => ixW x y M2) := by
  refine PE.weak (pe_ix (ix_all ok) ha hb hs) fun τ H Q ⟨ρ, σ, M, rs, rg, q⟩ => ?_
  refine tE_bind rs rg q fun ρ1 w M1 v H1 x1 rs1 rg1 r1 q1 => tE_bind rs1 rg1 q1 fun ρ2 w2 M2 v2 H2 x2 rs2 rg2 rp2 q2 => ?_
  exact ⟨ρ2, M2, w, w2, rs2, Rp.mono x2 _ _ r1, rp2, oK_E q2 (ixW_calm _ _ _)⟩

/-! ### slices -/
theorem bndW_ix (n d : Nat) (o : Option Int) : bndW n d o = HT.sIx n d o := by
  cases o with
  | none => rfl
  | some v =>
    unfold bndW HT.sIx
    by_cases h : v < 0 <;> simp [h]
theorem cut_rel {ρ : List Addr} {H : Hp} {ws : List W} {xs : List V} (lo hi : Option Int) (h : Rps F ρ H ws xs) : Rps F ρ H (cutW lo hi ws) (cutV xs lo hi) := by
  unfold cutW cutV
  rw [bndW_ix, bndW_ix, h.length]
  exact Rps.take _ (Rps.drop _ h)
def rSlW (F : Fx) : V → Option Int → Option Int → Hp → VK → Prop := fun x lo hi H Q => ∃ ρ M w, RelS F ρ H M ∧ Rp F ρ H w x ∧ oK F (Rp F) noE Q ρ H (slW w lo hi M)
theorem sl_all (hK : F.K = X.K) (lo hi : Option Int) {x : V} {H : Hp} {Q : VK} (h : rSlW F x lo hi H Q) : rSlA X.K x lo hi H (lk Q) ∨ rSlL X.K x lo hi H (lk Q) := by
  obtain ⟨ρ, M, w, rs, r, q⟩ := h
  have hr := rd_RpR rs r
  unfold slW at q
  split at q
  · rename_i ws e
    rcases hr with ⟨_, _, _, z, _⟩ | ⟨_, _, _, z, _⟩ | ⟨_, _, hr⟩
    · rw [e] at z; cases z
    · rw [e] at z; cases z
    · rw [e] at hr
      obtain ⟨p, xs, rfl, h1, h2⟩ := hr
      refine .inl ⟨p, xs, rfl, by rw [← hK]; exact h1, fun hw => .inl ?_, fun _ l hl => .inl ?_⟩
      · refine oK_ok q rs ⟨p, xs, rfl, h1, ?_⟩
        have : cutW lo hi ws = ws := by
          unfold cutW
          rw [bndW_ix, bndW_ix, ← h2.length, hw.1, hw.2]
          simp [h2.length]
        rw [this]
        exact h2
      · exact q ρ (.ref l) _ (Ext.upd0 hl) (rs.upd0 hl) ⟨l, _, rfl, SqT.of upd_same, Rps.mono (Ext.upd0 hl) _ _ (cut_rel lo hi h2)⟩
  · rename_i ws e
    rw [e] at hr
    obtain ⟨p, xs, rfl, h1, h2⟩ := hr.lst
    refine .inr ⟨p, xs, rfl, .inl h1, fun l hl => .inr ⟨l, .lst (cutV xs lo hi), upd_same, True.intro, fun od => ?_⟩⟩
    rw [upd_upd]
    exact q ρ (.ref l) _ (Ext.upd0 hl) (rs.upd0 hl) ⟨l, _, rfl, ⟨od, upd_same⟩, Rps.mono (Ext.upd0 hl) _ _ (cut_rel lo hi h2)⟩
  · exact q.elim
abbrev FO := Sg → Store → Out (Option Int)
def tOW (F : Fx) (Wx : WX) (fo : FO) : TO := fun τ H Q => ∃ ρ σ M, RelS F ρ H M ∧ RelG F ρ H σ τ ∧ oK F (fun _ _ a b => a = b) (fun c d H' => Wx c d τ H') Q ρ H (fo σ M)
theorem PO.weak {e : Option Expr} {t t' : TO} (h : PO X e t) (k : ∀ τ H Q, t' τ H Q → t τ H Q) : PO X e t' := ⟨fun pins s σ H Q I q => h.run pins s σ H Q I (k _ _ _ q)⟩
theorem o_none : PO X none (tOW F Wx fun _ M => .ok none M) := PO.weak po_none fun τ H Q ⟨ρ, σ, M, rs, rg, q⟩ => oK_ok q rs rfl
theorem o_some (ha : PE X a (tE F Wx f)) : PO X (some a) (tOW F Wx fun σ M => (f σ M).bind fun w M1 => match w with | .int i => .ok (some i) M1 | _ => .fail) := by
  refine PO.weak (po_some ha) fun τ H Q ⟨ρ, σ, M, rs, rg, q⟩ => ?_
  refine tE_bind rs rg q fun ρ1 w M1 v H1 x1 rs1 rg1 r1 q1 => ?_
  split at q1
  · exact ⟨_, r1, oK_ok q1 rs1 rfl⟩
  · exact q1.elim
theorem tOW_bind {fo : FO} {τ : L2.St} {H : Hp} {ρ : List Addr} {σ : Sg} {M : Store} {γ δ : Type} {R2 : List Addr → Hp → γ → δ → Prop} {k : Option Int → Store → Out γ} {Q : δ → Hp → Prop} {Q' : Option Int → Hp → Prop}
    (rs : RelS F ρ H M) (rg : RelG F ρ H σ τ) (o : oK F R2 (fun c d H' => Wx c d τ H') Q ρ H ((fo σ M).bind k))
    (n : ∀ (ρ1 : List Addr) (b : Option Int) (M1 : Store) (H1 : Hp), Ext ρ H ρ1 H1 → RelS F ρ1 H1 M1 → RelG F ρ1 H1 σ τ → oK F R2 (fun c d H' => Wx c d τ H') Q ρ1 H1 (k b M1) → Q' b H1) : tOW F Wx fo τ H Q' := by
  refine ⟨ρ, σ, M, rs, rg, ?_⟩
  cases e : fo σ M with
  | ok w M1 =>
    rw [e] at o
    refine fun ρ1 v H1 x s r => ?_
    cases (show w = v from r)
    exact n ρ1 w M1 H1 x s (rg.mono x) (oK.mono (show oK F R2 _ Q ρ H (k w M1) from o) x)
  | exc c es M1 => rw [e] at o; exact o
  | fail => rw [e] at o; exact o
theorem slW_calm (w : W) (lo hi : Option Int) (M : Store) : Calm (slW w lo hi M) := by
  intro c es M' h
  unfold slW at h
  split at h <;> cases h
theorem e_sl {lo hi : Option Expr} {fl fh : FO} {p2 : Pos} (hK : F.K = X.K) (ha : PE X a (tE F Wx f)) (hl : PO X lo (tOW F Wx fl)) (hh : PO X hi (tOW F Wx fh)) :
    PE X (.Subscript a (.Slice lo hi none p2) pos) (tE F Wx fun σ M => (f σ M).bind fun x M1 => (fl σ M1).bind fun l M2 => (fh σ M2).bind fun h M3 => slW x l h M3) := by
  refine PE.weak (PE.lockV (pe_slice (sl_tupA.or sl_list) ha hl hh)) fun τ H Q ⟨ρ, σ, M, rs, rg, q⟩ => ?_
  refine tE_bind rs rg q fun ρ1 w M1 v H1 x1 rs1 rg1 r1 q1 => tOW_bind rs1 rg1 q1 fun ρ2 l M2 H2 x2 rs2 rg2 q2 => tOW_bind rs2 rg2 q2 fun ρ3 h M3 H3 x3 rs3 rg3 q3 => ?_
  exact sl_all hK l h ⟨ρ3, M3, w, rs3, Rp.mono (x2.trans x3) _ _ r1, oK_E q3 (slW_calm _ _ _ _)⟩
end
end Mp
set_option Elab.async false
set_option linter.all false
set_option maxRecDepth 100000
set_option maxHeartbeats 2000000
namespace Mp
open PySem PySem.Spec PyProof.Rows L2 SeqAt

section
variable {F : Fx} {Wx : WX} {X : Cx}
def tyWV (F : Fx) (T : String) (H : Hp) (x : V) : Prop := ∃ p, x = .ref p ∧ ((T = "list" ∧ ∃ xs, Rd H p (.lst xs)) ∨ (T = "dict" ∧ ∃ ds, SqD F.K H p ds))
theorem tyWV_is (hK : F.K = X.K) {pins : List (Addr × Obj)} {τ : L2.St} {H : Hp} {s : Shared} {T : String} {x : V} {v : Value} (I : Inv X pins τ H s) (r : RelV x v) (ty : tyWV F T H x) : s.TypeIs v T ∧ ∀ a, v = .ref a → ∃ ob, s.heap.get? a = some ob ∧ ob.dict = none := by
  obtain ⟨p, rfl, ty⟩ := ty
  cases r
  rcases ty with ⟨rfl, xs, h⟩ | ⟨rfl, ds, h⟩
  · obtain ⟨its, n, _, e, _⟩ := lstR I h
    exact ⟨⟨_, e, rfl⟩, fun a z => by cases z; exact ⟨_, e, rfl⟩⟩
  · obtain ⟨ep, e⟩ := dict_at hK I h
    exact ⟨⟨_, e, rfl⟩, fun a z => by cases z; exact ⟨_, e, rfl⟩⟩
def tBMW (F : Fx) (T : String) (r : V → List V → Hp → VK → Prop) (to : TE) (t : TA) : TE := fun σ H Q => to σ H fun x H1 => tyWV F T H1 x ∧ t σ H1 fun xs H2 => r x xs H2 Q
def tBMW0 (F : Fx) (T : String) (r : V → List V → Hp → VK → Prop) (to : TE) : TE := fun σ H Q => to σ H fun x H1 => tyWV F T H1 x ∧ r x [] H1 Q
variable {o e : Expr} {es : List Expr} {to : TE} {t : TA} {name : Str} {apos cpos : Pos} {T id : String} {r : V → List V → Hp → VK → Prop}
theorem pe_bmW0 (hK : F.K = X.K) (pa : PlainAttrs T) (slot : Slot T name id) (hty : typeOf (.builtin id) = pure (.type "method_descriptor")) (hm : MtR X id r) (ho : PE X o to)
    (hbase : attributeBase o name X.env (eval o X.env) = eval o X.env) (hline : (apos.endLine == cpos.line) = true) : PE X (.Call (.Attribute o name apos) [] [] cpos) (tBMW0 F T r to) := by
  refine ⟨fun pins s σ H Q I h => ?_⟩
  refine wpAny_Call_method0_late hbase hline (thn (ho.run pins s σ H _ I h) fun v s1 ⟨x, H1, I1, r1, ty, q1⟩ => ?_)
  obtain ⟨h1, h2⟩ := tyWV_is hK I1 r1 ty
  exact ⟨T, id, pa, slot, hty, h1, h2, Calls.callWith_builtin rfl (PySem.evalArgs_none (hm pins s1 σ H1 x [] v [] Q I1 r1 .nil q1))⟩
theorem pe_bmW (hK : F.K = X.K) (pa : PlainAttrs T) (slot : Slot T name id) (hty : typeOf (.builtin id) = pure (.type "method_descriptor")) (hm : MtR X id r) (ho : PE X o to) (ha : PA X (e :: es) t)
    (hbase : attributeBase o name X.env (eval o X.env) = eval o X.env)
    (hfew : ((backTo cpos (starEach (e :: es) X.env)).all (fun x => !x.1) && (backToKw cpos (keywordEach [] X.env)).all (fun x => x.1.isSome)
      && decide ((e :: es).length + ([] : List Keyword).length + (if ([] : List Keyword).isEmpty then 0 else 1) < 30)) = true)
    (hline : (apos.endLine == cpos.line) = true) (hs : starEach (e :: es) X.env = (false, eval e X.env) :: starEach es X.env) (hplain : (backTo cpos (starEach es X.env)).any (·.1) = false) :
    PE X (.Call (.Attribute o name apos) (e :: es) [] cpos) (tBMW F T r to t) := by
  refine ⟨fun pins s σ H Q I h => ?_⟩
  refine wpAny_Call_method_late hbase hfew hline rfl (thn (ho.run pins s σ H _ I h) fun v s1 ⟨x, H1, I1, r1, ty, q1⟩ => ?_)
  obtain ⟨h1, h2⟩ := tyWV_is hK I1 r1 ty
  refine ⟨T, id, pa, slot, hty, h1, h2, ?_⟩
  have hA := ha.run cpos pins s1 σ H1 _ I1 q1
  rw [hs] at hA ⊢
  refine Calls.callWith_builtin (by show (false || (backTo cpos (starEach es X.env)).any (·.1)) = false; rw [hplain] <;> rfl) (Calls.evalArgs_plain ?_)
  exact thn hA fun us s2 ⟨vs, H2, I2, r2, q2⟩ => hm pins s2 σ H2 x vs v us Q I2 r1 r2 q2
/-- a method by data -/
def MtOk (X : Cx) (F : Fx) (id : String) (g : W → List W → Store → Out W) : Prop := ∃ r, MtR X id r ∧ ∀ ρ M w ws x vs H Q, RelS F ρ H M → Rp F ρ H w x → Rps F ρ H ws vs → oK F (Rp F) noE Q ρ H (g w ws M) → r x vs H (lk Q)
variable {fo : FE} {fl : Sg → Store → Out (List W)} {g : W → List W → Store → Out W} {chk : Store → W → Bool}
theorem e_bm (hK : F.K = X.K) (pa : PlainAttrs T) (slot : Slot T name id) (hty : typeOf (.builtin id) = pure (.type "method_descriptor")) (hm : MtOk X F id g) (nc : ∀ w ws M, Calm (g w ws M)) (hc : ∀ ρ M w x H, RelS F ρ H M → Rp F ρ H w x → chk M w = true → tyWV F T H x)
    (ho : PE X o (tE F Wx fo)) (ha : PA X (e :: es) (tL F Wx fl)) (hbase : attributeBase o name X.env (eval o X.env) = eval o X.env)
    (hfew : ((backTo cpos (starEach (e :: es) X.env)).all (fun x => !x.1) && (backToKw cpos (keywordEach [] X.env)).all (fun x => x.1.isSome)
      && decide ((e :: es).length + ([] : List Keyword).length + (if ([] : List Keyword).isEmpty then 0 else 1) < 30)) = true)
    (hline : (apos.endLine == cpos.line) = true) (hs : starEach (e :: es) X.env = (false, eval e X.env) :: starEach es X.env) (hplain : (backTo cpos (starEach es X.env)).any (·.1) = false) :
    PE X (.Call (.Attribute o name apos) (e :: es) [] cpos) (tE F Wx fun σ M => (fo σ M).bind fun x M1 => match chk M1 x with | true => (fl σ M1).bind fun ws M2 => g x ws M2 | false => .fail) := by
  obtain ⟨r, h1, h2⟩ := hm
  refine PE.weak (PE.lockV (pe_bmW hK pa slot hty h1 ho ha hbase hfew hline hs hplain)) fun τ H Q ⟨ρ, σ, M, rs, rg, q⟩ => ?_
  refine tE_bind rs rg q fun ρ1 w M1 v H1 x1 rs1 rg1 r1 q1 => ?_
  cases z : chk M1 w with
  | false => rw [z] at q1; exact q1.elim
  | true =>
    rw [z] at q1
    refine ⟨hc ρ1 M1 w v H1 rs1 r1 z, tL_bind rs1 rg1 q1 fun ρ2 ws M2 vs H2 x2 rs2 rg2 r2 q2 => ?_⟩
    exact h2 ρ2 M2 w ws v vs H2 Q rs2 (Rp.mono x2 _ _ r1) r2 (oK_E q2 (nc _ _ _))
theorem e_bm0 (hK : F.K = X.K) (pa : PlainAttrs T) (slot : Slot T name id) (hty : typeOf (.builtin id) = pure (.type "method_descriptor")) (hm : MtOk X F id g) (nc : ∀ w ws M, Calm (g w ws M)) (hc : ∀ ρ M w x H, RelS F ρ H M → Rp F ρ H w x → chk M w = true → tyWV F T H x)
    (ho : PE X o (tE F Wx fo)) (hbase : attributeBase o name X.env (eval o X.env) = eval o X.env) (hline : (apos.endLine == cpos.line) = true) :
    PE X (.Call (.Attribute o name apos) [] [] cpos) (tE F Wx fun σ M => (fo σ M).bind fun x M1 => match chk M1 x with | true => (Out.ok [] M1).bind fun ws M2 => g x ws M2 | false => .fail) := by
  obtain ⟨r, h1, h2⟩ := hm
  refine PE.weak (PE.lockV (pe_bmW0 hK pa slot hty h1 ho hbase hline)) fun τ H Q ⟨ρ, σ, M, rs, rg, q⟩ => ?_
  refine tE_bind rs rg q fun ρ1 w M1 v H1 x1 rs1 rg1 r1 q1 => ?_
  cases z : chk M1 w with
  | false => rw [z] at q1; exact q1.elim
  | true =>
    rw [z] at q1
    exact ⟨hc ρ1 M1 w v H1 rs1 r1 z, h2 ρ1 M1 w [] v [] H1 Q rs1 r1 rfl (oK_E (show oK F (Rp F) _ Q ρ1 H1 (g w [] M1) from q1) (nc _ _ _))⟩
theorem isL {ρ : List Addr} {M : Store} {w : W} {x : V} {H : Hp} (rs : RelS F ρ H M) (r : Rp F ρ H w x) (h : (lstOf M w).isSome = true) : tyWV F "list" H x := by
  cases e : lstOf M w with
  | none => rw [e] at h; cases h
  | some ws =>
    obtain ⟨p, xs, h1, h2, _⟩ := lstOf_rel rs r e
    exact ⟨p, h1, .inl ⟨rfl, xs, h2⟩⟩
theorem isD {ρ : List Addr} {M : Store} {w : W} {x : V} {H : Hp} (rs : RelS F ρ H M) (r : Rp F ρ H w x) (h : (dicOf M w).isSome = true) : tyWV F "dict" H x := by
  cases e : dicOf M w with
  | none => rw [e] at h; cases h
  | some ws =>
    obtain ⟨p, ds, h1, _, h2, _⟩ := dicOf_rel rs r e
    exact ⟨p, h1, .inr ⟨rfl, ds, h2⟩⟩

/-! ### lists -/
/-- a list of the store -/
theorem lstM {ρ : List Addr} {M : Store} {H : Hp} {l : Nat} {x : V} {ws : List W} (rs : RelS F ρ H M) (r : Rp F ρ H (.ref l) x) (e : M[l]? = some (.lst ws)) : ∃ p xs, x = .ref p ∧ ρ[l]? = some p ∧ H p = some (.lst xs) ∧ Rps F ρ H ws xs := by
  obtain ⟨p, h1, rfl⟩ := r
  obtain ⟨xs, h2, h3⟩ := rs.ob l _ p e h1
  exact ⟨p, xs, rfl, h1, h2, h3⟩
/-- .. written -/
theorem put_lst {ρ : List Addr} {M : Store} {H : Hp} {l : Nat} {p : Addr} {xs ys : List V} {us : List W} {E : XK} {Q : VK} {w : W} {v : V} (rs : RelS F ρ H M) (h1 : ρ[l]? = some p) (h2 : H p = some (.lst xs)) (h3 : Rps F ρ H us ys)
    (rv : Rp F ρ H w v) (q : oK F (Rp F) E Q ρ H (.ok w (M.set l (.lst us)))) : Q v (upd H p (.lst ys)) := by
  have x := Ext.write (u := .lst ys) (List.mem_of_getElem? h1) h2 True.intro (fun q z => nomatch z)
  exact q ρ v _ x (rs.put h1 h2 True.intro (fun q z => nomatch z) ⟨ys, upd_same, Rps.mono x _ _ h3⟩) (Rp.mono x _ _ rv)
def gm1 (f : W → W → Store → Out W) : W → List W → Store → Out W := fun a ws M => match ws with
  | [w] => f a w M
  | _ => .fail
theorem mt1 {k : W → W → Store → Out W} (hc : MtR X id r) (h : ∀ ρ M w u x v H Q, RelS F ρ H M → Rp F ρ H w x → Rp F ρ H u v → oK F (Rp F) noE Q ρ H (k w u M) → r x [v] H (lk Q)) : MtOk X F id (gm1 k) := by
  refine ⟨r, hc, fun ρ M w ws x vs H Q rs r0 rr q => ?_⟩
  unfold gm1 at q
  split at q
  · obtain ⟨v, rfl, r1⟩ := Rps.of1 rr
    exact h ρ M w _ x v H Q rs r0 r1 q
  · exact q.elim
theorem m_append : MtOk X F "list.append" (gm1 appendW) := by
  refine mt1 mt_append fun ρ M w u x v H Q rs r0 r1 q => ?_
  unfold appendW at q
  split at q
  · rename_i l
    split at q
    · rename_i ws e
      split at q
      · rename_i hz
        obtain ⟨p, xs, rfl, h1, h2, h3⟩ := lstM rs r0 e
        refine ⟨p, xs, v, rfl, rfl, h2, ?_, .inl (put_lst rs h1 h2 (Rps.append h3 (Rps.one r1)) (show Rp F ρ H .non .non from rfl) q)⟩
        have := lenOk_le hz
        rw [h3.length]
        omega
      · exact q.elim
    · exact q.elim
  · exact q.elim
theorem m_pop : MtOk X F "list.pop" (fun a ws M => match ws with | [] => popLastW a M | _ => .fail) := by
  refine ⟨_, mt_pop, fun ρ M w ws x vs H Q rs r0 rr q => ?_⟩
  dsimp only at q
  split at q
  · cases (show vs = [] from rr)
    unfold popLastW at q
    split at q
    · rename_i l
      split at q
      · rename_i ws e
        split at q
        · rename_i u e2
          obtain ⟨p, xs, rfl, h1, h2, h3⟩ := lstM rs r0 e
          have hne : ws = ws.dropLast ++ [u] := by
            obtain ⟨h, e3⟩ := List.getLast?_eq_some_iff.mp e2
            rw [e3]; simp
          rw [hne] at h3
          obtain ⟨xs1, xs2, rfl, h4, h5⟩ := Rps.split h3
          obtain ⟨v, rfl, h6⟩ := Rps.of1 h5
          refine ⟨p, xs1 ++ [v], v, rfl, rfl, h2, by simp, .inl ?_⟩
          have := put_lst rs h1 h2 h4 h6 q
          simpa using this
        · exact q.elim
      · exact q.elim
    · exact q.elim
  · exact q.elim
/-- extend, by a list that may be frozen -/
theorem mt_extendW : MtR X "list.extend" (fun x vs H Q => ∃ l b xs zs, x = .ref l ∧ vs = [.ref b] ∧ H l = some (.lst xs) ∧ Rd H b (.lst zs) ∧ xs.length + zs.length ≤ sizeLine ∧ Q .non (upd H l (.lst (xs ++ zs)))) := by
  intro pins s σ H x vs v us Q I rx rv h
  obtain ⟨l, b, xs, zs, rfl, rfl, hH, hB, hz, q⟩ := h
  cases rx
  obtain ⟨u, rfl, ru⟩ := rv.one
  cases ru
  obtain ⟨z, its, n, r, hl, e⟩ := I.lstM hH
  obtain ⟨its2, n2, r2, e2, _⟩ := lstR I hB
  have hl2 := r2.length
  have hsz : its.toArray.size + its2.toArray.size ≤ sizeLine := by rw [List.size_toArray, List.size_toArray]; omega
  have hlong : ¬ (!its.toArray.isEmpty && Builtin.List.listTooLong (its.toArray.size + its2.toArray.size)) = true := by
    rw [notLongL hsz, Bool.and_false]
    exact Bool.false_ne_true
  refine call_meets PySem.F.slot_list_extend ⟨_, e, rfl⟩ PySem.F.entry_list_extend (PySem.F.args_list_extend_2 _ _)
    (AutoSeq1.list_extend_list_list_0 l its.toArray n b its2.toArray n2 hlong (by rw [List.size_toArray]; omega) (by omega)) ⟨e, e2, ?_⟩
  refine ⟨.non, _, I.lset (its' := its ++ its2) hH e (by simp) (r.append r2) ?_, rfl, q⟩
  rw [List.length_append]
  omega
theorem m_extend : MtOk X F "list.extend" (gm1 extendW) := by
  refine mt1 mt_extendW fun ρ M w u x v H Q rs r0 r1 q => ?_
  unfold extendW at q
  split at q
  · rename_i l
    split at q
    · rename_i ws us e e2
      split at q
      · rename_i hz
        obtain ⟨p, xs, rfl, h1, h2, h3⟩ := lstM rs r0 e
        obtain ⟨p', zs, rfl, h4, h5⟩ := lstOf_rel rs r1 e2
        refine ⟨p, p', xs, zs, rfl, rfl, h2, h4, ?_, .inl (put_lst rs h1 h2 (Rps.append h3 h5) (show Rp F ρ H .non .non from rfl) q)⟩
        have := lenOk_le hz
        rw [h3.length, h5.length]
        omega
      · exact q.elim
    · exact q.elim
  · exact q.elim
/-- the place of a text among texts -/
theorem findS_at {ρ : List Addr} {H : Hp} {x : Str} : ∀ {ws : List W} {xs : List V} {o : Option Nat}, findS x ws = some o → Rps F ρ H ws xs → xs.all flatV = true ∧ (∀ n, o = some n → xs[n]? = some (.str x) ∧ ∀ (m : Nat) (z : V), m < n → xs[m]? = some z → eqV z (.str x) = false)
  | [], xs, o, h, r => by
    cases h
    cases (show xs = [] from r)
    exact ⟨rfl, fun n e => by cases e⟩
  | w :: ws, xs, o, h, r => by
    obtain ⟨v, t, rfl, h1, h2⟩ := r
    cases w with
    | str y =>
      cases (show v = .str y from h1)
      unfold findS at h
      cases hd : decide (y = x) with
      | true =>
        rw [hd] at h
        dsimp only at h
        cases e : findS x ws with
        | none => rw [e] at h; cases h
        | some o' =>
          rw [e] at h
          cases h
          obtain ⟨a1, a2⟩ := findS_at e h2
          have := of_decide_eq_true hd
          subst this
          refine ⟨by simp only [List.all_cons, a1, Bool.and_true]; rfl, fun n e => ?_⟩
          cases e
          exact ⟨rfl, fun m z hm => absurd hm (Nat.not_lt_zero _)⟩
      | false =>
        rw [hd] at h
        dsimp only at h
        have hne : eqV (.str y) (.str x) = false := by
          have := of_decide_eq_false hd
          simp [eqV, this]
        cases e : findS x ws with
        | none => rw [e] at h; cases h
        | some o' =>
          rw [e] at h
          obtain ⟨a1, a2⟩ := findS_at e h2
          cases o' with
          | none =>
            cases h
            exact ⟨by simp only [List.all_cons, a1, Bool.and_true]; rfl, fun n e => by cases e⟩
          | some k =>
            cases h
            obtain ⟨b1, b2⟩ := a2 k rfl
            refine ⟨by simp only [List.all_cons, a1, Bool.and_true]; rfl, fun n e => ?_⟩
            cases e
            refine ⟨by simpa using b1, fun m z hm hz => ?_⟩
            cases m with
            | zero =>
              have : V.str y = z := by simpa using hz
              rw [← this]
              exact hne
            | succ m => exact b2 m z (by omega) (by simpa using hz)
    | _ => cases h
theorem m_index : MtOk X F "list.index" (gm1 indexW) := by
  refine mt1 mt_index fun ρ M w u x v H Q rs r0 r1 q => ?_
  unfold indexW at q
  split at q
  · rename_i ws y e
    cases (show v = .str y from r1)
    split at q
    · rename_i n e2
      obtain ⟨p, xs, rfl, h1, h2⟩ := lstOf_rel rs r0 e
      obtain ⟨a1, a2⟩ := findS_at e2 h2
      obtain ⟨b1, b2⟩ := a2 n rfl
      exact ⟨p, xs, .str y, n, .str y, rfl, rfl, .inl h1, rfl, a1, b1, by simp [eqV], b2, .inl (oK_ok q rs rfl)⟩
    · exact q.elim
  · exact q.elim
end
end Mp
set_option Elab.async false
set_option linter.all false
set_option maxRecDepth 100000
set_option maxHeartbeats 2000000
namespace Mp
open PySem PySem.Spec PyProof.Rows L2 SeqAt

section
variable {F : Fx} {Wx : WX} {X : Cx}
theorem setItem_any {P : Program} {w : World} {A : Around} {E : Value → Shared → Prop} {s : Shared} {d : Addr} {ds : List DictEntry} {ks : List NestedKey} {k : NestedKey} {key v : Value} (hu : A.units + 30 < cLine) (hkey : NestedIs s.heap k key) (hdep : k.depth ≤ 8) (D : DA w s.heap d ds ks) (hz : ds.length ≤ sizeLine) {Q : Unit → Shared → Prop}
    (hQ : ∀ ds' ep h' tk, setD w ks k key v ds ds' → h'.get? d = some (dObj ds' ep) → Heap.SameBut d s.heap h' → Q () { s with heap := h', toks := tk }) : wpAny (model P w) A (setItem (.ref d) key v) Q E s := by
  unfold setItem
  try with_reducible refine wpAny_holding ?_
  refine wpAny_bind (wpAny_sequenceKey D.ty (by decide) ?_)
  refine wpAny_bind (wpAny_callSpecial?_slot (name := Str.ofString "__setitem__") D.ty slot_dict_setitem
    (wpAny_call_entry slot_dict_setitem D.ty entry_dict_setitem ?_ (args_dict_setitem _ _ _)))
  show wpAny _ _ (Builtin.Dict.notOrdered "__setitem__" ⟨[.ref d, key, v], []⟩ >>= _) _ _ s
  refine wpAny_bind (wpAny_notOrdered_dict D.ty ?_)
  show wpAny _ _ (dictSet d key v >>= _) _ _ s
  exact wpAny_bind (set_any (by show A.units + 1 + 20 < _; omega) hkey hdep D hz fun ds' ep h' tk h1 h2 h3 => wpAny_pure ⟨.none, rfl, wpAny_pure (hQ ds' ep h' tk h1 h2 h3)⟩)
/-- a dict of the store -/
theorem dicM {ρ : List Addr} {M : Store} {H : Hp} {l : Nat} {x : V} {es : List W} (rs : RelS F ρ H M) (r : Rp F ρ H (.ref l) x) (e : M[l]? = some (.dic es)) : ∃ p ds, x = .ref p ∧ ρ[l]? = some p ∧ (p == sysModules) = false ∧ H p = some (dicO p ds) ∧ es.length ≤ sizeLine ∧ KDist es ∧ RpE F ρ H es ds := by
  obtain ⟨p, h1, rfl⟩ := r
  obtain ⟨ds, h2, h3⟩ := rs.ob l _ p e h1
  exact ⟨p, ds, rfl, h1, h2, h3⟩
theorem put_dic {ρ : List Addr} {M : Store} {H : Hp} {l : Nat} {p : Addr} {ds ds' : List DictEntry} {es : List W} (rs : RelS F ρ H M) (h1 : ρ[l]? = some p) (h0 : (p == sysModules) = false) (h2 : H p = some (dicO p ds)) (hz : es.length ≤ sizeLine) (kd : KDist es) (h3 : RpE F ρ H es ds') :
    Ext ρ H ρ (upd H p (dicO p ds')) ∧ RelS F ρ (upd H p (dicO p ds')) (M.set l (.dic es)) := by
  have x := Ext.write (u := dicO p ds') (List.mem_of_getElem? h1) h2 True.intro (fun q => code_dic)
  exact ⟨x, rs.put h1 h2 True.intro (fun q => code_dic) ⟨ds', h0, upd_same, hz, kd, RpE.mono x _ _ h3⟩⟩
def rSetW (F : Fx) : V → V → V → Hp → (Hp → Prop) → Prop := fun o i v H Q => ∃ ρ M a k w M', RelS F ρ H M ∧ Rp F ρ H a o ∧ Rp F ρ H k i ∧ Rp F ρ H w v ∧ setItemW a k w M = some M' ∧ ∀ ρ' H', Ext ρ H ρ' H' → RelS F ρ' H' M' → Q H'
theorem set_all (ok : CxOk F X) : PSet X (rSetW F) := by
  intro pins s τ H o i v ov iv u Q I ro ri rv ⟨ρ, M, a, k, w, M', rs, ra, rk, rw', h, q⟩
  have hu := ok.un
  unfold setItemW at h
  split at h
  · rename_i l
    split at h
    · rename_i es e
      obtain ⟨p, ds, rfl, h1, h0, h2, hz, kd, r⟩ := dicM rs ra e
      split at h
      · rename_i es' e2
        split at h
        · rename_i hz'
          cases h
          unfold putK at e2
          split at e2
          · rename_i ka
            cases e2
            cases ro
            obtain ⟨n1, d1⟩ := nest ok.k I k i iv 8 rk ri ka
            have D := DA.of ok.k ok.w I (.inl h2) r kd
            refine setItem_any (by omega) n1 d1 D (by rw [r.len]; exact hz) fun ds' ep h' tk g1 g2 g3 => ?_
            rw [← ok.w] at g1
            obtain ⟨x, rs'⟩ := put_dic rs h1 h0 h2 (lenOk_le hz') (putE_dist ka kd) (putE_rel ka rk ri rw' rv r kd g1)
            exact ⟨_, Inv.putD I h2 g3 g2, q ρ _ x rs'⟩
          · cases e2
        · cases h
      · cases h
    · rename_i ws e
      split at h
      · rename_i j
        split at h
        · rename_i n e2
          cases h
          cases (show i = .int j from rk)
          obtain ⟨p, xs, rfl, h1, h2, h3⟩ := lstM rs ra e
          refine set_list pins s τ H _ _ v ov iv u Q I ro ri rv ⟨p, xs, j, n, rfl, rfl, h2, by rw [h3.length]; exact ixN_of e2, ?_⟩
          have x := Ext.write (u := .lst (xs.set n v)) (List.mem_of_getElem? h1) h2 True.intro (fun q z => nomatch z)
          exact q ρ _ x (rs.put h1 h2 True.intro (fun q z => nomatch z) ⟨_, upd_same, Rps.mono x _ _ (Rps.set n h3 rw')⟩)
        · cases h
      · cases h
    · cases h
  · cases h
/-! ### get -/
theorem m_get (ok : CxOk F X) : MtOk X F "dict.get" (fun a ws M => match ws with | [k, d] => getW a k d M | _ => .fail) := by
  refine ⟨fun x vs H Q => ∃ ρ M a k d v v', RelS F ρ H M ∧ Rp F ρ H a x ∧ vs = [v, v'] ∧ Rp F ρ H k v ∧ Rp F ρ H d v' ∧ oK F (Rp F) noE Q ρ H (getW a k d M), ?_, fun ρ M w ws x vs H Q rs r0 rr q => ?_⟩
  · intro pins s τ H x xs v us Q I rx rv ⟨ρ, M, a, k, d, y, y', rs, ra, e, rk, rd', q⟩
    subst e
    have hu := ok.un
    obtain ⟨u1, u2, rfl, r1, r2⟩ := vals2 rv
    unfold getW at q
    split at q
    · rename_i es e
      obtain ⟨p, ds, rfl, h0, h1, hz, kd, r⟩ := dicOf_rel rs ra e
      cases rx
      have D := DA.of ok.k ok.w I h1 r kd
      cases ka : keyOk 8 k with
      | false => unfold getK at q; rw [ka] at q; exact q.elim
      | true =>
        unfold getK at q
        rw [ka] at q
        obtain ⟨n1, d1⟩ := nest ok.k I k y u1 8 rk r1 ka
        refine call_meetsIn PySem.F.slot_dict_get D.ty PySem.F.entry_dict_get (PySem.F.args_dict_get_3 _ _ _) (S := fun A' R s' => A' = X.A ∧ s' = s ∧ (∀ z s2, EP X pins τ Q z s2 → R (.ok (.ret z)) s2)) (fun A' R s' hS => ?_) ⟨rfl, rfl, fun z s2 h => h⟩
        obtain ⟨rfl, rfl, hR⟩ := hS
        show wpAny _ _ (dictGet p u1 >>= _) _ _ _
        refine wpAny_bind (get_any (by show X.A.units + 1 + 20 < _; omega) n1 d1 D (fun hno tk => ?_) fun j en g1 g2 tk => ?_)
        · show wpAny _ _ (Builtin.Dict.missed p u1 >>= _) _ _ _
          refine wpAny_bind (wpAny_missed_other h0 (wpAny_pure (hR u2 _ ⟨y', H, I.tok tk, r2, ?_⟩)))
          cases z : getE k es with
          | none => rw [z] at q; exact oK_ok q rs rd'
          | some w =>
            obtain ⟨j, en, z1, _⟩ := getE_idx ka r kd z
            exact absurd z1 (hno j)
        · refine wpAny_pure (hR en.val _ ?_)
          cases z : getE k es with
          | none => exact absurd g1 (getE_none ka kd z j)
          | some w =>
            rw [z] at q
            obtain ⟨y2, r3, r4⟩ := getE_some ka r kd z j en g1 g2
            exact ⟨y2, H, I.tok tk, r3, oK_ok q rs r4⟩
    · exact q.elim
  · dsimp only at q
    split at q
    · obtain ⟨v, v', rfl, r1, r2⟩ := Rps.of2 rr
      refine ⟨ρ, M, w, _, _, v, v', rs, r0, rfl, r1, r2, ?_⟩
      have : ∀ {o : Out W}, oK F (Rp F) noE Q ρ H o → oK F (Rp F) noE (lk Q) ρ H o := fun {o} h => by
        cases o with
        | ok a M => exact fun ρ' b H' x s r => .inl (h ρ' b H' x s r)
        | exc c es M => exact h
        | fail => exact h
      exact this q
    · exact q.elim
end
end Mp
set_option Elab.async false
set_option linter.all false
set_option maxRecDepth 100000
set_option maxHeartbeats 2000000
namespace Mp
open PySem PySem.Spec PyProof.Rows L2 SeqAt

def FzA (K : PySem.W.Frag) (H : Hp) (d : Addr) (ds : List DictEntry) (ep : Nat) : Prop := H d = some (.frz (dObj ds ep) (dicO d ds)) ∨ K.lookup d = some (dObj ds ep)
/-- the keys of a frozen dict -/
def ItD (K : PySem.W.Frag) (d : Addr) (ds : List DictEntry) (ep : Nat) : It :=
  ⟨fun i H => FzA K H d ds ep ∧ i < ds.length, fun i H x H' => H' = H ∧ ∃ e, ds[i]? = some e ∧ RelV x e.key, fun i H => FzA K H d ds ep ∧ ds.length ≤ i⟩
section
variable {X : Cx} {pins : List (Addr × Obj)} {τ : L2.St} {H : Hp} {s : Shared}
theorem FzA.get {d : Addr} {ds : List DictEntry} {ep : Nat} (I : Inv X pins τ H s) (h : FzA X.K H d ds ep) : s.heap.get? d = some (dObj ds ep) := by
  rcases h with h | h
  · exact (show _ ∧ ObjOk X.prog X.w H s.heap d (dicO d ds) from I.hok d _ h).1
  · exact I.kIn _ _ h
theorem fzA_of {F : Fx} (hK : F.K = X.K) (I : Inv X pins τ H s) {d : Addr} {ds : List DictEntry} (h : FzD F.K H d ds) : ∃ ep, FzA X.K H d ds ep := by
  rcases h with ⟨o, h⟩ | ⟨ep, h⟩
  · obtain ⟨h1, ⟨ep, h2⟩, _, _⟩ := (show s.heap.get? d = some o ∧ ObjOk X.prog X.w H s.heap d (dicO d ds) from I.hok d _ h)
    rw [h1] at h2
    cases h2
    exact ⟨ep, .inl h⟩
  · rw [hK] at h
    exact ⟨ep, .inr h⟩
theorem turn_keysD {P : Program} {w : World} {K : PySem.W.Frag} {tg : Expr} {d : Addr} {ds : List DictEntry} {ep : Nat} (it : Addr) (vs : List V) (hv : Vals vs (ds.map (·.key))) : Turn P w K tg (ItD K d ds ep) [it] it (fun i h => h.IsKeyIter it d i ds.length ep) where
  mem := by simp
  obj := fun i h st b hb => by
    have e : b = it := by simpa using hb
    subst e
    obtain ⟨oi, e, c, dd⟩ := st
    exact ⟨oi, e, fun v z => by rw [dd] at z; cases z⟩
  keep := fun i h h' st k => st.at fun oi e => k it (by simp) oi e
  item := by
    intro X hP hw hK hc i pins s σ H E I hf st hg
    subst hP hw hK
    obtain ⟨hd, hi⟩ := hg
    obtain ⟨f0, f1, f2, f3, f4, f5⟩ := hf it (by simp)
    have hgd := hd.get I
    have hx : ds.toArray[i]? = some ds[i] := by simp [List.getElem?_eq_getElem hi]
    have hl : vs.length = ds.length := by
      have := hv.length
      simpa using this
    obtain ⟨u, hu, ru⟩ := hv.get (List.getElem?_eq_getElem (show i < vs.length by omega))
    rw [List.getElem?_map, List.getElem?_eq_getElem hi] at hu
    cases hu
    refine next_key_item st hgd rfl (by simp) hx fun h' st' sb => ?_
    have I1 : Inv X pins σ H { s with heap := h' } := I.turned (t' := s.toks) (fun b ob hb e => (sb.2 b hb).trans e) f0 f1 f3 f4 f5
    obtain ⟨oi, e, c, dd⟩ := id st'
    exact ⟨_, rfl, go_of (s := { s with heap := h' }) e c dd (by decide) ⟨_, H, I1, ru, ⟨rfl, _, List.getElem?_eq_getElem hi, ru⟩, st', fun b hb => (hf b hb).1⟩⟩
  done := by
    intro X hP hw hK hc i pins s σ H E I hf st hg
    subst hP hw hK
    obtain ⟨hd, hi⟩ := hg
    obtain ⟨f0, f1, f2, f3, f4, f5⟩ := hf it (by simp)
    exact next_key_end (I.ok.hd hc) st (hd.get I) rfl (by simp) hi fun h' eb => ⟨rfl, I.turned (t' := s.toks) (fun b ob hb e => eb b ob hb e) f0 f1 f3 f4 f5⟩
  self := fun A i s Q E st h => wpAny_pyIter_keyiter st h
end

/-- the row that an iterator gives -/
def ItOk (F : Fx) (J : It) (ws : List W) (ρ : List Addr) (H : Hp) : Prop := ∀ ρ' H', ExtB ρ H ρ' H' → J.stop ws.length H' ∧
  ∀ (i : Nat) (w : W), ws[i]? = some w → J.go i H' ∧ ∀ (x : V) (H2 : Hp), J.yld i H' x H2 → Ext ρ' H' ρ' H2 ∧ (∀ M, RelS F ρ' H' M → RelS F ρ' H2 M) ∧ Rp F ρ' H2 w x
abbrev FI := Sg → Store → Out (List W)
def tI (F : Fx) (Wx : WX) (fi : FI) : TI := fun τ H R => ∃ ρ σ M, RelS F ρ H M ∧ RelG F ρ H σ τ ∧ oK F (fun ρ H ws J => ItOk F J ws ρ H) (fun c d H' => Wx c d τ H') R ρ H (fi σ M)
section
variable {F : Fx} {Wx : WX} {X : Cx} {e tg : Expr} {f : FE}
theorem ItOk.same {F : Fx} {J : It} {ws : List W} {ρ : List Addr} {H : Hp} (hs : ∀ ρ' H', ExtB ρ H ρ' H' → J.stop ws.length H') (hg : ∀ ρ' H' i w, ExtB ρ H ρ' H' → ws[i]? = some w → J.go i H')
    (hy : ∀ ρ' H' i w x H2, ExtB ρ H ρ' H' → ws[i]? = some w → J.yld i H' x H2 → H2 = H' ∧ Rp F ρ' H' w x) : ItOk F J ws ρ H := fun ρ' H' x => ⟨hs ρ' H' x, fun i w e => ⟨hg ρ' H' i w x e, fun v H2 y => by
  obtain ⟨rfl, r⟩ := hy ρ' H' i w v H2 x e y
  exact ⟨Ext.refl, fun M rs => rs, r⟩⟩⟩
theorem i_plain (ok : CxOk F X) (he : PE X e (tE F Wx f)) : PI X tg e (tI F Wx fun σ M => (f σ M).bind plainIt) := by
  have hK := ok.k
  refine ⟨fun pins s τ H R I ⟨ρ, σ, M, rs, rg, q⟩ => ?_⟩
  refine thn (he.run pins s τ H (fun v H1 => ∃ ρ1 w M1, RelS F ρ1 H1 M1 ∧ Rp F ρ1 H1 w v ∧ oK F (fun ρ H ws J => ItOk F J ws ρ H) (fun c d H' => Wx c d τ H') R ρ1 H1 (plainIt w M1)) I
    (tE_bind rs rg q fun ρ1 w M1 v H1 x1 rs1 rg1 r1 q1 => ⟨ρ1, w, M1, rs1, r1, q1⟩)) fun v s1 ⟨x, H1, I1, rx, ρ1, w, M1, rs1, r1, q1⟩ => ?_
  cases w with
  | lst ws =>
    obtain ⟨a, xs, rfl, h1, h2⟩ := r1
    cases rx
    obtain ⟨its, n, rv, eo, hz⟩ := lstR I1 h1.rd
    refine wpAny_pyIter_list ⟨_, eo, rfl, n, rfl⟩ (pi_one (tk := s1.toks) I1 _ (turn_list a _) ⟨_, Heap.get?_push_size _ rfl, rfl, rfl⟩ (oK_ok q1 rs1 ?_))
    refine ItOk.same (fun ρ' H' x => ⟨xs, .inl (x.fzL h1).rd, by rw [h2.length]; exact Nat.le_refl _⟩) (fun ρ' H' i w x e => ?_) fun ρ' H' i w v H2 x e y => ?_
    · obtain ⟨v, e1, _⟩ := Rps.get h2 e
      exact ⟨xs, v, .inl (x.fzL h1).rd, e1⟩
    · obtain ⟨v', e1, r⟩ := Rps.get h2 e
      have := y.2 xs (.inl (x.fzL h1).rd)
      rw [e1] at this
      cases this
      exact ⟨y.1, Rp.monoB x _ _ r⟩
  | tup ws =>
    obtain ⟨a, xs, rfl, h1, h2⟩ := r1
    cases rx
    rw [hK] at h1
    obtain ⟨its, rv, p, hz⟩ := I1.tuple h1
    refine wpAny_pyIter_tuple (show s1.heap.IsTuple a its.toArray from p) (pi_one (tk := s1.toks) I1 _ (turn_tuple a _) ⟨_, Heap.get?_push_size _ rfl, rfl, rfl⟩ (oK_ok q1 rs1 ?_))
    refine ItOk.same (fun ρ' H' x => ⟨xs, x.sqT h1, by rw [h2.length]; exact Nat.le_refl _⟩) (fun ρ' H' i w x e => ?_) fun ρ' H' i w v H2 x e y => ?_
    · obtain ⟨v, e1, _⟩ := Rps.get h2 e
      exact ⟨xs, v, x.sqT h1, e1⟩
    · obtain ⟨v', e1, r⟩ := Rps.get h2 e
      have := y.2 xs (x.sqT h1)
      rw [e1] at this
      cases this
      exact ⟨y.1, Rp.monoB x _ _ r⟩
  | dic es =>
    obtain ⟨d, ds, rfl, h0, h1, hz, kd, h2⟩ := r1
    cases rx
    obtain ⟨ep, h3⟩ := fzA_of hK I1 h1
    obtain ⟨vs, r3, r4⟩ := keys_rel h2
    have at_ : ∀ {ρ' H'}, ExtB ρ1 H1 ρ' H' → FzA X.K H' d ds ep := fun x => h3.imp (fun h => x.frz _ _ _ h) id
    have hl : (keysOf es).length = ds.length := by
      have e1 := r3.length
      have e2 := r4.length
      simp at e2
      omega
    refine iter_keys h0 (h3.get I1) ⟨rfl, rfl, rfl⟩ rfl (pi_one (tk := s1.toks) I1 _ (turn_keysD (ep := ep) _ vs r4) ⟨_, Heap.get?_push_size _ rfl, rfl, rfl⟩ (oK_ok q1 rs1 ?_))
    refine ItOk.same (fun ρ' H' x => ⟨at_ x, by rw [hl]; exact Nat.le_refl _⟩) (fun ρ' H' i w x e => ⟨at_ x, by rw [← hl]; exact (List.getElem?_eq_some_iff.mp e).1⟩) fun ρ' H' i w v H2 x e y => ?_
    obtain ⟨v', e1, r⟩ := Rps.get r3 e
    obtain ⟨u, e2, ru⟩ := r4.get e1
    obtain ⟨y1, en, y2, y3⟩ := y
    rw [List.getElem?_map, y2] at e2
    cases e2
    cases RelV.inj y3 ru
    exact ⟨y1, Rp.monoB x _ _ r⟩
  | str x =>
    cases (show _ = V.str x from r1)
    obtain ⟨t, rfl⟩ := rx
    have q2 : R (Its x) H1 := by
      refine oK_ok q1 rs1 ?_
      have hl : (signs x).length = x.cps.size := by simp [signs]
      refine ItOk.same (fun ρ' H' _ => by rw [hl]; exact Nat.le_refl _) (fun ρ' H' i w _ e => ?_) fun ρ' H' i w v H2 _ e y => ?_
      · have := (List.getElem?_eq_some_iff.mp e).1
        rw [hl] at this
        exact this
      · obtain ⟨y1, c, y2, rfl⟩ := y
        refine ⟨y1, ?_⟩
        unfold signs at e
        rw [List.getElem?_map, Array.getElem?_toList, y2] at e
        cases e
        rfl
    cases ha : x.cps.all (· < 128)
    · exact wpAny_pyIter_wide ha (pi_one (tk := s1.toks) I1 _ (turn_str _ x t "str_iterator" (.inr rfl)) ⟨_, Heap.get?_push_size _ rfl, rfl, rfl⟩ q2)
    · exact wpAny_pyIter_ascii ha (pi_one (tk := s1.toks) I1 _ (turn_str _ x t "str_ascii_iterator" (.inl rfl)) ⟨_, Heap.get?_push_size _ rfl, rfl, rfl⟩ q2)
  | _ => exact (show False from q1).elim
end
end Mp
set_option Elab.async false
set_option linter.all false
set_option maxRecDepth 100000
set_option maxHeartbeats 2000000
namespace Mp
open PySem PySem.Spec PyProof.Rows L2 SeqAt

abbrev FS := Sg → Store → SOut
def sK (F : Fx) (Wx : WX) (D : Ends) (ρ : List Addr) (H : Hp) : SOut → Prop
  | .next σ M => ∀ ρ' H' τ', Ext ρ H ρ' H' → RelS F ρ' H' M → RelG F ρ' H' σ τ' → D.nx τ' H'
  | .ret w M => ∀ ρ' H' v, Ext ρ H ρ' H' → RelS F ρ' H' M → Rp F ρ' H' w v → D.rt v H'
  | .exc c es σ M => ∀ ρ' H' C od τ', Ext ρ H ρ' H' → RelS F ρ' H' M → RelG F ρ' H' σ τ' → F.cA c = some C → ExcR F ρ' H' es od → Wx (.ref C) od τ' H'
  | .fail => False
def tS (F : Fx) (Wx : WX) (f : FS) : TS := fun D τ H => ∃ ρ σ M, RelS F ρ H M ∧ RelG F ρ H σ τ ∧ sK F Wx D ρ H (f σ M)
section
variable {F : Fx} {Wx : WX} {X : Cx} {e : Expr} {f : FE} {pos : Pos} {D : Ends} {ρ : List Addr} {H : Hp} {τ : L2.St} {σ : Sg} {M : Store}
theorem sK.mono {ρ' : List Addr} {H' : Hp} {o : SOut} (h : sK F Wx D ρ H o) (x : Ext ρ H ρ' H') : sK F Wx D ρ' H' o := by
  cases o with
  | next σ M => exact fun ρ2 H2 τ' x2 s g => h ρ2 H2 τ' (x.trans x2) s g
  | ret w M => exact fun ρ2 H2 v x2 s r => h ρ2 H2 v (x.trans x2) s r
  | exc c es σ M => exact fun ρ2 H2 C od τ' x2 s g e r => h ρ2 H2 C od τ' (x.trans x2) s g e r
  | fail => exact h
theorem sK.ends {D D' : Ends} {o : SOut} (h : sK F Wx D ρ H o) (n : ∀ τ H, D.nx τ H → D'.nx τ H) (r : ∀ v H, D.rt v H → D'.rt v H) : sK F Wx D' ρ H o := by
  cases o with
  | next σ M => exact fun ρ2 H2 τ' x2 s g => n _ _ (h ρ2 H2 τ' x2 s g)
  | ret w M => exact fun ρ2 H2 v x2 s rr => r _ _ (h ρ2 H2 v x2 s rr)
  | exc c es σ M => exact h
  | fail => exact h
theorem oK_st {α β : Type} {R : List Addr → Hp → α → β → Prop} {o : Out α} {k : α → Store → SOut} {Q : β → Hp → Prop} (rg : RelG F ρ H σ τ) (h : sK F Wx D ρ H (o.st σ k))
    (n : ∀ a M1, o = .ok a M1 → ∀ ρ1 b H1, Ext ρ H ρ1 H1 → RelS F ρ1 H1 M1 → R ρ1 H1 a b → sK F Wx D ρ1 H1 (k a M1) → Q b H1) : oK F R (fun c d H' => Wx c d τ H') Q ρ H o := by
  cases o with
  | ok a M1 => exact fun ρ1 b H1 x s r => n a M1 rfl ρ1 b H1 x s r (sK.mono (show sK F Wx D ρ H (k a M1) from h) x)
  | exc c es M1 => exact fun ρ1 H1 C od x s e r => h ρ1 H1 C od τ x s (rg.mono x) e r
  | fail => exact h
theorem PS.weak {st : Stmt} {t t' : TS} (h : PS X st t) (k : ∀ D τ H, t' D τ H → t D τ H) : PS X st t' := ⟨fun pins s σ H D I q => h.run pins s σ H D I (k _ _ _ q)⟩
theorem PSs.weak {st : List Stmt} {t t' : TS} (h : PSs X st t) (k : ∀ D τ H, t' D τ H → t D τ H) : PSs X st t' := ⟨fun pins s σ H D I q => h.run pins s σ H D I (k _ _ _ q)⟩
theorem s_nil : PSs X [] (tS F Wx fun σ M => .next σ M) := PSs.weak pss_nil fun D τ H ⟨ρ, σ, M, rs, rg, q⟩ => q ρ H τ Ext.refl rs rg
theorem s_cons {st : Stmt} {rest : List Stmt} {f g : FS} (h1 : PS X st (tS F Wx f)) (h2 : PSs X rest (tS F Wx g)) : PSs X (st :: rest) (tS F Wx fun σ M => (f σ M).then_ fun σ1 M1 => g σ1 M1) := by
  refine PSs.weak (pss_cons h1 h2) fun D τ H ⟨ρ, σ, M, rs, rg, q⟩ => ⟨ρ, σ, M, rs, rg, ?_⟩
  dsimp only at q
  cases e : f σ M with
  | next σ1 M1 =>
    rw [e] at q
    exact fun ρ' H' τ' x s g' => ⟨ρ', σ1, M1, s, g', sK.mono (show sK F Wx D ρ H (g σ1 M1) from q) x⟩
  | ret w M1 => rw [e] at q; exact q
  | exc c es σ1 M1 => rw [e] at q; exact q
  | fail => rw [e] at q; exact q
theorem s_pass : PS X (.Pass pos) (tS F Wx fun σ M => .next σ M) := PS.weak ps_pass fun D τ H ⟨ρ, σ, M, rs, rg, q⟩ => q ρ H τ Ext.refl rs rg
theorem s_expr (he : PE X e (tE F Wx f)) (hps : PS X (.Expr e pos) (tDrop (tE F Wx f))) : PS X (.Expr e pos) (tS F Wx fun σ M => (f σ M).st σ fun _ M1 => .next σ M1) := by
  refine PS.weak hps fun D τ H ⟨ρ, σ, M, rs, rg, q⟩ => ⟨ρ, σ, M, rs, rg, ?_⟩
  exact oK_st rg q fun w M1 _ ρ1 v H1 x s r q1 => q1 ρ1 H1 τ Ext.refl s (rg.mono x)
theorem s_ret (he : PE X e (tE F Wx f)) : PS X (.Return (some e) pos) (tS F Wx fun σ M => (f σ M).st σ fun w M1 => .ret w M1) := by
  refine PS.weak (ps_ret he) fun D τ H ⟨ρ, σ, M, rs, rg, q⟩ => ⟨ρ, σ, M, rs, rg, ?_⟩
  exact oK_st rg q fun w M1 _ ρ1 v H1 x s r q1 => q1 ρ1 H1 v Ext.refl s r
theorem s_retN : PS X (.Return none pos) (tS F Wx fun _ M => .ret .non M) := PS.weak ps_retN fun D τ H ⟨ρ, σ, M, rs, rg, q⟩ => q ρ H .non Ext.refl rs rfl
theorem s_if {c : Expr} {a b : List Stmt} {fq : Sg → Store → Out Bool} {fa fb : FS} (hc : PT X c (tQ F Wx fq)) (ha : PSs X a (tS F Wx fa)) (hb : PSs X b (tS F Wx fb)) :
    PS X (.If c a b pos) (tS F Wx fun σ M => (fq σ M).st σ fun k M1 => match k with | true => fa σ M1 | false => fb σ M1) := by
  refine PS.weak (ps_if hc ha hb) fun D τ H ⟨ρ, σ, M, rs, rg, q⟩ => ⟨ρ, σ, M, rs, rg, ?_⟩
  refine oK_st rg q fun k M1 _ ρ1 v H1 x s r q1 => ?_
  cases (show k = v from r)
  cases k with
  | true => rw [if_pos rfl]; exact ⟨ρ1, σ, M1, s, rg.mono x, q1⟩
  | false => rw [if_neg Bool.false_ne_true]; exact ⟨ρ1, σ, M1, s, rg.mono x, q1⟩
/-! ### stores -/
/-- only these slots are others -/
def Touch (is : List Nat) (τ τ1 : L2.St) : Prop := τ1.length = τ.length ∧ ∀ j, j ∉ is → τ1[j]? = τ[j]?
theorem Touch.refl {τ : L2.St} : Touch [] τ τ := ⟨rfl, fun _ _ => rfl⟩
theorem Touch.set {τ : L2.St} {i : Nat} {v : Option V} : Touch [i] τ (τ.set i v) := ⟨by simp, fun j h => List.getElem?_set_ne (fun e => h (by simp [e]))⟩
theorem Touch.cons {τ τ1 τ2 : L2.St} {i : Nat} {is : List Nat} (a : Touch [i] τ τ1) (b : Touch is τ1 τ2) : Touch (i :: is) τ τ2 :=
  ⟨b.1.trans a.1, fun j h => (b.2 j fun z => h (List.mem_cons_of_mem _ z)).trans (a.2 j fun z => h (by have : j = i := by simpa using z
                                                                                                       simp [this]))⟩
def tGW (F : Fx) (is : List Nat) (g : W → Sg → Store → Option Sg) : TG := fun v τ H Q => ∃ ρ σ M w, RelS F ρ H M ∧ RelG F ρ H σ τ ∧ Rp F ρ H w v ∧ ∃ σ1, g w σ M = some σ1 ∧ ∀ τ1, RelG F ρ H σ1 τ1 → Touch is τ τ1 → Q τ1 H
theorem PG.weak {tg : Expr} {t t' : TG} (h : PG X tg t) (k : ∀ v τ H Q, t' v τ H Q → t v τ H Q) : PG X tg t' := ⟨fun pins s σ H v u Q I r q => h.run pins s σ H v u Q I r (k _ _ _ _ q)⟩
theorem g_name {x : Str} {i : Nat} (hN : X.N.Nodup) (hi : X.N[i]? = some x) (hx : Loc X.env.scope x) (hf : X.fn x = true ∨ List.lookup x X.env.scope.names = some NameKind.local) : PG X (.Name x pos) (tGW F [i] fun w σ M => asgT (.n i) w σ M) := by
  refine PG.weak (pg_name hN hi hx hf) fun v τ H Q ⟨ρ, σ, M, w, rs, rg, r, σ1, e, q⟩ => ?_
  cases e
  exact q _ (rg.set r) Touch.set
theorem s_set {tg : Expr} {is : List Nat} {g : W → Sg → Store → Option Sg} (hps : PS X (.Assign [tg] e pos) (tAsg (tE F Wx f) (tGW F is g))) :
    PS X (.Assign [tg] e pos) (tS F Wx fun σ M => (f σ M).st σ fun w M1 => match g w σ M1 with | some σ1 => .next σ1 M1 | none => .fail) := by
  refine PS.weak hps fun D τ H ⟨ρ, σ, M, rs, rg, q⟩ => ⟨ρ, σ, M, rs, rg, ?_⟩
  refine oK_st rg q fun w M1 _ ρ1 v H1 x s r q1 => ?_
  cases e : g w σ M1 with
  | none => rw [e] at q1; exact q1.elim
  | some σ1 =>
    rw [e] at q1
    exact ⟨ρ1, σ, M1, w, s, rg.mono x, r, σ1, e, fun τ1 g1 _ => q1 ρ1 H1 τ1 Ext.refl s g1⟩

/-! ### for -/
theorem forL_cons (k : W → Sg → Store → SOut) (x : W) (r : List W) : forL k (x :: r) σ M = (k x σ M).then_ fun σ1 M1 => forL k r σ1 M1 := rfl
theorem s_for {tg iter : Expr} {body : List Stmt} {fi : FI} {is : List Nat} {g : W → Sg → Store → Option Sg} {fb : FS} (hp : PassesOwn (model X.prog X.w) X.A X.env X.xe) (hc : X.calm = true) (hi : PI X tg iter (tI F Wx fi)) (hg : PG X tg (tGW F is g)) (hb : PSs X body (tS F Wx fb))
    (hs : ∀ x, foldedSetIterable iter X.env x = pure x) :
    PS X (.For tg iter body [] pos) (tS F Wx fun σ M => (fi σ M).st σ fun xs M1 => forL (fun x σ1 M2 => match g x σ1 M2 with | some σ2 => fb σ2 M2 | none => .fail) xs σ M1) := by
  refine PS.weak (ps_for hp hc hi hg hb hs) fun D τ H ⟨ρ, σ, M, rs, rg, q⟩ => ⟨ρ, σ, M, rs, rg, ?_⟩
  refine oK_st rg q fun xs M1 _ ρ1 J H1 x s r q1 => ?_
  refine ⟨fun i m τ' H' => m = xs.length - i ∧ i ≤ xs.length ∧ ∃ ρ' σ' M', Ext ρ1 H1 ρ' H' ∧ RelS F ρ' H' M' ∧ RelG F ρ' H' σ' τ' ∧ sK F Wx D ρ' H' (forL (fun x σ1 M2 => match g x σ1 M2 with | some σ2 => fb σ2 M2 | none => .fail) (xs.drop i) σ' M'),
    ⟨xs.length, by simp, Nat.zero_le _, ρ1, σ, M1, Ext.refl, s, rg.mono x, q1⟩, ?_⟩
  rintro i m τ' H' ⟨rfl, hi, ρ', σ', M', x', s', g', q'⟩
  by_cases hlt : i < xs.length
  · have hx : xs[i]? = some xs[i] := List.getElem?_eq_getElem hlt
    obtain ⟨go, yl⟩ := (r ρ' H' x'.toExtB).2 i xs[i] hx
    refine .inr ⟨go, fun τ2 H2 => ∃ ρ2 σ2 M2, Ext ρ1 H1 ρ2 H2 ∧ RelS F ρ2 H2 M2 ∧ RelG F ρ2 H2 σ2 τ2 ∧ sK F Wx D ρ2 H2 (forL (fun x σ1 M2 => match g x σ1 M2 with | some σ2 => fb σ2 M2 | none => .fail) (xs.drop (i + 1)) σ2 M2),
      fun τ2 H2 h => ⟨xs.length - (i + 1), by omega, rfl, hlt, h⟩, fun v H2 y => ?_⟩
    obtain ⟨x2, s2, r2⟩ := yl v H2 y
    rw [List.drop_eq_getElem_cons hlt, forL_cons] at q'
    have q2 := sK.mono q' x2
    refine ⟨ρ', σ', M', xs[i], s2 M' s', g'.mono x2, r2, ?_⟩
    cases e : g xs[i] σ' M' with
    | none => rw [e] at q2; exact q2.elim
    | some σ1 =>
      rw [e] at q2
      dsimp only at q2
      refine ⟨σ1, rfl, fun τ1 g1 _ => ⟨ρ', σ1, M', s2 M' s', g1, ?_⟩⟩
      cases e2 : fb σ1 M' with
      | next σ3 M3 =>
        rw [e2] at q2
        exact fun ρ3 H3 τ3 x3 s3 g3 => ⟨ρ3, σ3, M3, (x'.trans x2).trans x3, s3, g3, sK.mono (show sK F Wx D ρ' H2 (forL _ (xs.drop (i + 1)) σ3 M3) from q2) x3⟩
      | ret w M3 => rw [e2] at q2; exact q2
      | exc c es σ3 M3 => rw [e2] at q2; exact q2
      | fail => rw [e2] at q2; exact q2
  · have e : i = xs.length := by omega
    subst e
    rw [List.drop_length] at q'
    exact .inl ⟨(r ρ' H' x'.toExtB).1, q' ρ' H' τ' Ext.refl s' g'⟩
end
end Mp
set_option Elab.async false
set_option linter.all false
set_option maxRecDepth 100000
set_option maxHeartbeats 2000000
namespace Mp
open PySem PySem.Spec PyProof.Rows L2 SeqAt

section
variable {F : Fx} {Wx : WX} {X : Cx} {e : Expr} {f : FE} {pos : Pos} {D : Ends} {ρ : List Addr} {H : Hp} {τ : L2.St} {σ : Sg} {M : Store}
/-! ### names in a row -/
structure NameOk (X : Cx) (x : Str) (i : Nat) : Prop where
  at_ : X.N[i]? = some x
  loc : Loc X.env.scope x
  fn : X.fn x = true ∨ List.lookup x X.env.scope.names = some NameKind.local
def tGsW (F : Fx) (is : List Nat) : TGs := fun vs τ H Q => ∃ ρ σ M ws, RelS F ρ H M ∧ RelG F ρ H σ τ ∧ Rps F ρ H ws vs ∧ ∃ σ1, manyT is ws σ = some σ1 ∧ ∀ τ1, RelG F ρ H σ1 τ1 → Touch is τ τ1 → Q τ1 H
theorem PGs.weak {es : List Expr} {t t' : TGs} (h : PGs X es t) (k : ∀ v τ H Q, t' v τ H Q → t v τ H Q) : PGs X es t' := ⟨fun pins s σ H v u Q I r q => h.run pins s σ H v u Q I r (k _ _ _ _ q)⟩
theorem g_nil : PGs X [] (tGsW F []) := by
  refine PGs.weak pgs_nil fun vs τ H Q ⟨ρ, σ, M, ws, rs, rg, r, σ1, e, q⟩ => ?_
  cases ws with
  | nil =>
    cases e
    exact ⟨r, q τ rg Touch.refl⟩
  | cons w ws => cases e
theorem g_cons {x : Str} {p : Pos} {es : List Expr} {i : Nat} {is : List Nat} (hN : X.N.Nodup) (n : NameOk X x i) (h : PGs X es (tGsW F is)) : PGs X (.Name x p :: es) (tGsW F (i :: is)) := by
  refine PGs.weak (pgs_cons (g_name (F := F) hN n.at_ n.loc n.fn) h) fun vs τ H Q ⟨ρ, σ, M, ws, rs, rg, r, σ1, e, q⟩ => ?_
  cases ws with
  | nil => cases e
  | cons w ws =>
    obtain ⟨v, t, rfl, r1, r2⟩ := r
    exact ⟨v, t, rfl, ρ, σ, M, w, rs, rg, r1, _, rfl, fun τ1 g1 c1 => ⟨ρ, _, M, ws, rs, g1, r2, σ1, e, fun τ2 g2 c2 => q τ2 g2 (c1.cons c2)⟩⟩
theorem manyT_len : ∀ {is : List Nat} {ws : List W} {σ σ1 : Sg}, manyT is ws σ = some σ1 → ws.length = is.length
  | [], [], _, _, _ => rfl
  | [], _ :: _, _, _, h => by cases h
  | _ :: _, [], _, _, h => by cases h
  | i :: is, w :: ws, σ, σ1, h => congrArg (· + 1) (manyT_len (is := is) (ws := ws) h)
theorem g_tup {es : List Expr} {k : Nat} {is : List Nat} (hK : F.K = X.K) (hc : X.calm = true) (h : PGs X es (tGsW F is)) (hn : (assignEach es X.env).length = is.length) (hst : (assignEach es X.env).findIdx? (·.1) = none) : PG X (.Tuple es k pos) (tGW F is fun w σ M => asgT (.t is) w σ M) := by
  refine PG.weak (pg_tup hc h hn hst) fun v τ H Q ⟨ρ, σ, M, w, rs, rg, r, σ1, e, q⟩ => ?_
  cases w with
  | tup ws =>
    obtain ⟨a, xs, rfl, h1, h2⟩ := r
    rw [hK] at h1
    exact ⟨a, xs, rfl, h1, by rw [h2.length]; exact manyT_len e, ρ, σ, M, ws, rs, rg, h2, σ1, e, q⟩
  | _ => cases e

/-! ### o[i] = e -/
theorem s_setI {o i : Expr} {p : Pos} {fo fi : FE} (hps : PS X (.Assign [.Subscript o i p] e pos) (tAsg (tE F Wx f) (gSub (tE F Wx fo) (tE F Wx fi) (rSetW F)))) :
    PS X (.Assign [.Subscript o i p] e pos) (tS F Wx fun σ M => (f σ M).st σ fun w M1 => (fo σ M1).st σ fun x M2 => (fi σ M2).st σ fun y M3 => stO (setItemW x y w M3) σ) := by
  refine PS.weak hps fun D τ H ⟨ρ, σ, M, rs, rg, q⟩ => ⟨ρ, σ, M, rs, rg, ?_⟩
  refine oK_st rg q fun w M1 _ ρ1 v H1 x1 s1 r1 q1 => ⟨ρ1, σ, M1, s1, rg.mono x1, oK_st (rg.mono x1) q1 fun w2 M2 _ ρ2 v2 H2 x2 s2 r2 q2 => ⟨ρ2, σ, M2, s2, rg.mono (x1.trans x2), oK_st (rg.mono (x1.trans x2)) q2 fun w3 M3 _ ρ3 v3 H3 x3 s3 r3 q3 => ?_⟩⟩
  cases h : setItemW w2 w3 w M3 with
  | none => rw [h] at q3; exact q3.elim
  | some M' =>
    rw [h] at q3
    exact ⟨ρ3, M3, w2, w3, w, M', s3, Rp.mono x3 _ _ r2, r3, Rp.mono (x2.trans x3) _ _ r1, h, fun ρ' H' x s => q3 ρ' H' τ x s (rg.mono ((x1.trans (x2.trans x3)).trans x))⟩

/-! ### while -/
theorem s_while {c : Expr} {body : List Stmt} {fq : Sg → Store → Out Bool} {fb : FS} (n : Nat) (hp : PassesOwn (model X.prog X.w) X.A X.env X.xe) (hc : PT X c (tQ F Wx fq)) (hb : PSs X body (tS F Wx fb)) :
    PS X (.While c body [] pos) (tS F Wx fun σ M => whileL fq fb n σ M) := by
  refine PS.weak (ps_while hp hc hb) fun D τ H ⟨ρ, σ, M, rs, rg, q⟩ => ?_
  refine ⟨fun m τ' H' => ∃ ρ' σ' M', RelS F ρ' H' M' ∧ RelG F ρ' H' σ' τ' ∧ sK F Wx D ρ' H' (whileL fq fb m σ' M'), ⟨n, ρ, σ, M, rs, rg, q⟩, ?_⟩
  rintro m τ' H' ⟨ρ', σ', M', rs', rg', q'⟩
  cases m with
  | zero => exact (show False from q').elim
  | succ m =>
    refine ⟨ρ', σ', M', rs', rg', oK_st rg' (show sK F Wx D ρ' H' ((fq σ' M').st σ' fun k M1 => match k with | true => (fb σ' M1).then_ fun σ2 M2 => whileL fq fb m σ2 M2 | false => .next σ' M1) from q') fun k M1 _ ρ1 v H1 x1 s1 r1 q1 => ?_⟩
    cases (show k = v from r1)
    cases k with
    | false =>
      rw [if_neg Bool.false_ne_true]
      exact q1 ρ1 H1 τ' Ext.refl s1 (rg'.mono x1)
    | true =>
      rw [if_pos rfl]
      refine ⟨fun τ2 H2 => ∃ ρ2 σ2 M2, RelS F ρ2 H2 M2 ∧ RelG F ρ2 H2 σ2 τ2 ∧ sK F Wx D ρ2 H2 (whileL fq fb m σ2 M2), fun τ2 H2 h => ⟨m, Nat.lt_succ_self m, h⟩, ρ1, σ', M1, s1, rg'.mono x1, ?_⟩
      dsimp only at q1
      cases e2 : fb σ' M1 with
      | next σ3 M3 =>
        rw [e2] at q1
        exact fun ρ3 H3 τ3 x3 s3 g3 => ⟨ρ3, σ3, M3, s3, g3, sK.mono (show sK F Wx D ρ1 H1 (whileL fq fb m σ3 M3) from q1) x3⟩
      | ret w M3 => rw [e2] at q1; exact q1
      | exc c es σ3 M3 => rw [e2] at q1; exact q1
      | fail => rw [e2] at q1; exact q1
end
end Mp
set_option Elab.async false
set_option linter.all false
set_option maxRecDepth 100000
set_option maxHeartbeats 2000000
namespace Mp
open PySem PySem.Spec PyProof.Rows L2 SeqAt

/-- a def's promise: the oracle's answer -/
def spC (F : Fx) (C : Orc) (n np : Nat) : Sp := fun vs H Q E => vs.length = np ∧ ∃ ρ M ws, RelS F ρ H M ∧ Rps F ρ H ws vs ∧ oK F (Rp F) E Q ρ H (C n ws M)
def stepO (f : FS) (n : Nat) (ws : List W) (M : Store) : Out W := match f (ws.map some ++ List.replicate (n - ws.length) none) M with
  | .next _ M1 => .ok .non M1
  | .ret w M1 => .ok w M1
  | .exc c es _ M1 => .exc c es M1
  | .fail => .fail
section
variable {F : Fx} {Wx : WX} {X : Cx} {C : Orc}
theorem start_rel {ρ : List Addr} {H : Hp} {N : List Str} : ∀ {ws : List W} {vs : List V}, Rps F ρ H ws vs → RelG F ρ H (ws.map some ++ List.replicate (N.length - ws.length) none) (L2.start N vs) := by
  intro ws vs h
  refine ⟨by unfold L2.start; simp [h.length], fun i w e => ?_⟩
  by_cases hi : i < ws.length
  · rw [List.getElem?_append_left (by simpa using hi), List.getElem?_map] at e
    cases q : ws[i]? with
    | none => rw [q] at e; cases e
    | some u =>
      rw [q] at e
      cases e
      obtain ⟨v, e1, r⟩ := Rps.get h q
      refine ⟨v, ?_, r.toA⟩
      unfold L2.start
      rw [List.getElem?_append_left (by rw [List.length_map, h.length]; exact hi), List.getElem?_map, e1]
      rfl
  · rw [List.getElem?_append_right (by simpa using hi)] at e
    rw [List.getElem?_replicate] at e
    split at e <;> cases e
theorem step_K {f : FS} {n : Nat} {ws : List W} {M : Store} {E : XK} {Q : VK} {ρ : List Addr} {H : Hp} (h : oK F (Rp F) E Q ρ H (stepO f n ws M)) :
    sK F (fun c d _ H' => E c d H') { nx := fun _ H' => Q .non H', rt := Q } ρ H (f (ws.map some ++ List.replicate (n - ws.length) none) M) := by
  unfold stepO at h
  cases e : f (ws.map some ++ List.replicate (n - ws.length) none) M with
  | next σ1 M1 => rw [e] at h; exact fun ρ' H' τ' x s _ => h ρ' .non H' x s rfl
  | ret w M1 => rw [e] at h; exact fun ρ' H' v x s r => h ρ' v H' x s r
  | exc c es σ1 M1 => rw [e] at h; exact fun ρ' H' C od τ' x s _ e r => h ρ' H' C od x s e r
  | fail => rw [e] at h; exact h
/-- a def keeps the promise when its body does -/
theorem fn_ok {P : Program} {w : World} {K : PySem.W.Frag} {mg : Str → Option Value} {base : Heap} {x qual : Str} {st : Stmt} {a : Addr} {fd : FuncData} {N ps : List Str} {k n : Nat} {fb : FS} (F1 : Fun K x qual st a fd) (S : FnScope N ps (defScope st))
    (hC : ∀ ws M, ws.length = ps.length → C n ws M = stepO fb N.length ws M ∨ C n ws M = .fail)
    (hbody : ∀ (cdv : Value) (A : Around) (outer : List Env) (s : Shared) (H : Hp) (E : XK), Room k (A.deeper (envOfC qual (defScope st) s.heap.objs.size a cdv)) →
      PSs (cxOf (L2.CX P w) P w K mg base N qual (defScope st) a cdv A outer s H E) (defBody st) (tS F (fun c d _ H' => E c d H') fb)) : FnOk P w K mg base (L2.CX P w) (k + 1) a fd ps (spC F C n ps.length) := by
  refine Fun.okX F1 S (fun vs H Q E h => h.1) fun cdv A outer s H vs Q E hr ⟨hl, ρ, M, ws, rs, rw', q⟩ => ⟨_, hbody cdv A outer s H E hr, ρ, _, M, rs, start_rel rw', ?_⟩
  rcases hC ws M (by rw [← rw'.length]; exact hl) with e | e
  · rw [e] at q
    exact step_K q
  · rw [e] at q
    exact q.elim
variable {x : Str} {p pos : Pos} {e : Expr} {es : List Expr} {fl : Sg → Store → Out (List W)} {k n : Nat} {f : Addr} {fd : FuncData} {ps : List Str}
end
end Mp
set_option Elab.async false
set_option linter.all false
set_option maxRecDepth 100000
set_option maxHeartbeats 2000000
namespace Mp
open PySem PySem.Spec PyProof.Rows L2 SeqAt

section
variable {F : Fx} {Wx : WX} {X : Cx}
abbrev WN : WX := fun _ _ _ _ => False
theorem wipe_get (τ : L2.St) : ∀ (vs : List Nat) (j : Nat), (wipe τ vs)[j]? = if j ∈ vs ∧ j < τ.length then some none else τ[j]?
  | [], j => by simp [wipe]
  | v :: vs, j => by
    show ((wipe τ vs).set v none)[j]? = _
    rw [List.getElem?_set, wipe_length, wipe_get τ vs j]
    by_cases h : v = j
    · subst h
      by_cases h2 : v < τ.length
      · simp [h2]
      · simp [h2]
    · rw [if_neg h]
      have h' : ¬ j = v := fun z => h z.symm
      by_cases h2 : j ∈ vs
      · by_cases h3 : j < τ.length <;> simp [h2, h3]
      · simp [h2, h']
theorem Touch.wipe {τ τ1 : L2.St} {is vs : List Nat} (t : Touch is τ τ1) (h : ∀ i ∈ is, i ∈ vs) : wipe τ1 vs = wipe τ vs := by
  apply List.ext_getElem?
  intro j
  rw [wipe_get, wipe_get, t.1]
  by_cases hj : j ∈ vs
  · by_cases hl : j < τ.length
    · rw [if_pos ⟨hj, hl⟩, if_pos ⟨hj, hl⟩]
    · rw [if_neg fun z => hl z.2, if_neg fun z => hl z.2]
      rw [List.getElem?_eq_none (by rw [t.1]; omega), List.getElem?_eq_none (by omega)]
  · rw [if_neg fun z => hj z.1, if_neg fun z => hj z.1]
    exact t.2 j fun z => hj (h j z)
theorem wipe_wipe (τ : L2.St) (vs : List Nat) : wipe (wipe τ vs) vs = wipe τ vs := by
  apply List.ext_getElem?
  intro j
  rw [wipe_get, wipe_get, wipe_length]
  split <;> rfl
theorem wipe_rel {ρ : List Addr} {H : Hp} {σ : Sg} {τ : L2.St} (g : RelG F ρ H σ τ) (vs : List Nat) : RelG F ρ H (wipeW σ vs) (wipe τ vs) := by
  have key : ∀ (vs : List Nat) (j : Nat), (wipeW σ vs)[j]? = if j ∈ vs ∧ j < σ.length then some none else σ[j]? := by
    intro vs
    induction vs with
    | nil => intro j; simp [wipeW]
    | cons v vs ih =>
      intro j
      have hl : ∀ vs : List Nat, (wipeW σ vs).length = σ.length := fun vs => by
        induction vs with
        | nil => rfl
        | cons v vs ih => show ((wipeW σ vs).set v none).length = _; simp [ih]
      show ((wipeW σ vs).set v none)[j]? = _
      rw [List.getElem?_set, hl, ih j]
      by_cases h : v = j
      · subst h
        by_cases h2 : v < σ.length <;> simp [h2]
      · rw [if_neg h]
        have h' : ¬ j = v := fun z => h z.symm
        by_cases h2 : j ∈ vs
        · by_cases h3 : j < σ.length <;> simp [h2, h3]
        · simp [h2, h']
  refine ⟨?_, fun i w e => ?_⟩
  · rw [wipe_length]
    have hl : ∀ vs : List Nat, (wipeW σ vs).length = σ.length := fun vs => by
      induction vs with
      | nil => rfl
      | cons v vs ih => show ((wipeW σ vs).set v none).length = _; simp [ih]
    rw [hl, g.len]
  · rw [key vs i] at e
    rw [wipe_get, ← g.len]
    split at e
    · cases e
    · rename_i h
      rw [if_neg h]
      exact g.at_ i w e
theorem lst_code {D : Addr} {acc : List V} {q : Str} : HO.lst acc ≠ LamX.CodeO D q := fun z => by unfold LamX.CodeO at z; cases z
theorem tab_own {H : Hp} {D : Addr} {acc : List V} {u : HO} (h : H D = some (.lst acc)) (b : Addr) (q : Bool) (t : TQ H b q) : TQ (upd H D u) b q := t.upd h True.intro fun _ => lst_code
/-- an untracked list of our own grows -/
theorem ExtB.own {ρ : List Addr} {H : Hp} {D : Addr} {acc : List V} {u : HO} (h : H D = some (.lst acc)) : ExtB ρ H ρ (upd H D u) where
  pre := ⟨[], by simp⟩
  tup := fun b xs e => by rw [upd_ne (fun z => by rw [z, h] at e; cases e)]; exact e
  frz := fun b o u e => by rw [upd_ne (fun z => by rw [z, h] at e; cases e)]; exact e
  xd := fun b fs e => by rw [upd_ne (fun z => by rw [z, h] at e; cases e)]; exact e
  tb := fun b q t => tab_own h b q t
  tr := fun b e => by
    by_cases q : b = D
    · rw [q, upd_same]; exact fun z => nomatch z
    · rw [upd_ne q]; exact e
theorem Ext.own {ρ1 ρ : List Addr} {H1 H : Hp} {D : Addr} {acc : List V} {u : HO} (x : Ext ρ1 H1 ρ H) (h1 : H1 D = none) (h : H D = some (.lst acc)) : Ext ρ1 H1 ρ (upd H D u) where
  pre := x.pre
  nw := x.nw
  tup := fun b xs e => by rw [upd_ne (fun z => by rw [z, h1] at e; cases e)]; exact x.tup b xs e
  frz := fun b o u e => by rw [upd_ne (fun z => by rw [z, h1] at e; cases e)]; exact x.frz b o u e
  xd := fun b fs e => by rw [upd_ne (fun z => by rw [z, h1] at e; cases e)]; exact x.xd b fs e
  tb := fun b q t => tab_own h b q (x.tb b q t)
  tr := fun b e => by rw [upd_ne (fun z => by rw [z, h1] at e; exact e rfl)]; exact x.tr b e
  fr := fun b o n m e => by rw [upd_ne (fun z => by rw [z, h1] at e; cases e)]; exact x.fr b o n m e
theorem RelS.own {ρ : List Addr} {H : Hp} {M : Store} {D : Addr} {acc : List V} {u : HO} (r : RelS F ρ H M) (n : D ∉ ρ) (h : H D = some (.lst acc)) : RelS F ρ (upd H D u) M :=
  r.keepB (ExtB.own h) fun a u ha q => by rw [upd_ne (fun z => n (by rw [← z]; exact ha))]; exact q
/-- what a comprehension makes of an item -/
def itemLc (vs : List Nat) (g : W → Sg → Store → Option Sg) (fq : Sg → Store → Out Bool) (fe : FE) (σ : Sg) : W → Store → Out (List W) := fun x M2 => match g x (wipeW σ vs) M2 with
  | some σ1 => (calmO (fq σ1 M2)).bind fun k M3 => match k with
    | true => (calmO (fe σ1 M3)).bind fun w M4 => .ok [w] M4
    | false => .ok [] M3
  | none => .fail
theorem flatL_cons (k : W → Store → Out (List W)) (x : W) (r : List W) (M : Store) : flatL k (x :: r) M = (k x M).bind fun ws M1 => (flatL k r M1).bind fun ws' M2 => .ok (ws ++ ws') M2 := rfl
theorem calmO_calm {α : Type} (o : Out α) : Calm (calmO o) := by
  intro c es M h
  cases o <;> cases h
theorem item_calm {vs : List Nat} {g : W → Sg → Store → Option Sg} {fq : Sg → Store → Out Bool} {fe : FE} {σ : Sg} (x : W) (M : Store) : Calm (itemLc vs g fq fe σ x M) := by
  intro c es M' h
  unfold itemLc at h
  split at h
  · rename_i σ1 _
    cases e : fq σ1 M with
    | ok k M3 =>
      rw [e] at h
      cases k with
      | true =>
        cases e2 : fe σ1 M3 with
        | ok w M4 => simp only [calmO, Out.bind, e2] at h; cases h
        | exc _ _ _ => simp only [calmO, Out.bind, e2] at h; cases h
        | fail => simp only [calmO, Out.bind, e2] at h; cases h
      | false => simp only [calmO, Out.bind] at h; cases h
    | exc _ _ _ => rw [e] at h; cases h
    | fail => rw [e] at h; cases h
  · cases h
theorem flatL_calm {k : W → Store → Out (List W)} (hk : ∀ x M, Calm (k x M)) : ∀ (xs : List W) (M : Store), Calm (flatL k xs M)
  | [], M => fun c es M' h => by cases h
  | x :: r, M => fun c es M' h => by
    rw [flatL_cons] at h
    cases e : k x M with
    | ok ws M1 =>
      rw [e] at h
      cases e2 : flatL k r M1 with
      | ok ws' M2 => simp only [Out.bind, e2] at h; cases h
      | exc c' es' M2 => exact flatL_calm hk r M1 c' es' M2 e2
      | fail => simp only [Out.bind, e2] at h; cases h
    | exc c' es' M1 => exact hk x M c' es' M1 e
    | fail => rw [e] at h; cases h
theorem rest_step {k : W → Store → Out (List W)} {fz : Bool} {x : W} {r acc ws1 : List W} {M M1 : Store} (e : k x M = .ok ws1 M1) :
    ((flatL k (x :: r) M).bind fun ws M2 => mkL fz (acc ++ ws) M2) = (flatL k r M1).bind fun ws M2 => mkL fz ((acc ++ ws1) ++ ws) M2 := by
  rw [flatL_cons, e]
  cases e2 : flatL k r M1 with
  | ok ws' M2 => simp only [Out.bind, e2, List.append_assoc]
  | exc _ _ _ => simp only [Out.bind, e2]
  | fail => simp only [Out.bind, e2]
theorem rest_len {k : W → Store → Out (List W)} {fz : Bool} {r acc : List W} {M : Store} {E : XK} {Q : VK} {ρ : List Addr} {H : Hp} (hk : ∀ x M, Calm (k x M)) (q : oK F (Rp F) E Q ρ H ((flatL k r M).bind fun ws M2 => mkL fz (acc ++ ws) M2)) : acc.length ≤ sizeLine := by
  cases e : flatL k r M with
  | ok ws M2 =>
    rw [e] at q
    have q : oK F (Rp F) E Q ρ H (mkL fz (acc ++ ws) M2) := q
    unfold mkL at q
    cases z : lenOk (acc ++ ws).length with
    | true =>
      have := lenOk_le z
      rw [List.length_append] at this
      omega
    | false => rw [z] at q; exact q.elim
  | exc c es M2 => exact absurd e (flatL_calm hk r M c es M2)
  | fail => rw [e] at q; exact q.elim
theorem lc_read {own : List (Str × Nat)} {fi : FI} {is : List Nat} {g : W → Sg → Store → Option Sg} {fq : Sg → Store → Out Bool} {fe : FE} {fz : Bool} (his : ∀ i ∈ is, i ∈ own.map (·.2)) {τ : L2.St} {H : Hp} {Q : VK}
    (q : tE F Wx (fun σ M => (fi σ M).bind fun xs M1 => (flatL (itemLc (own.map (·.2)) g fq fe σ) xs M1).bind (mkL fz)) τ H Q) : tLc (tI F Wx fi) (tGW F is g) (tQ F WN fq) (tE F WN fe) (own.map (·.2)) τ H (lk Q) := by
  obtain ⟨ρ, σ, M, rs, rg, q⟩ := q
  show tLc (tI F Wx fi) (tGW F is g) (tQ F WN fq) (tE F WN fe) (own.map (·.2)) τ H (lk Q)
  refine ⟨ρ, σ, M, rs, rg, ?_⟩
  dsimp only at q
  cases e : fi σ M with
  | exc c es M1 => rw [e] at q; exact q
  | fail => rw [e] at q; exact q
  | ok xs M1 =>
    rw [e] at q
    intro ρ1 J H1 x1 s1 r1 D hD
    have q1 := oK.mono (show oK F (Rp F) _ Q ρ H ((flatL (itemLc (own.map (·.2)) g fq fe σ) xs M1).bind (mkL fz)) from q) x1
    refine ⟨fun i m H' => m = xs.length - i ∧ i ≤ xs.length ∧ ∃ ρ' M' acc accv, Ext ρ1 H1 ρ' H' ∧ RelS F ρ' H' M' ∧ D ∉ ρ' ∧ H' D = some (.lst accv) ∧ Rps F ρ' H' acc accv ∧ oK F (Rp F) (fun c d H' => Wx c d τ H') Q ρ1 H1 ((flatL (itemLc (own.map (·.2)) g fq fe σ) (xs.drop i) M').bind fun ws M2 => mkL fz (acc ++ ws) M2),
      ⟨xs.length, by simp, Nat.zero_le _, ρ1, M1, [], [], Ext.upd0 hD, s1.upd0 hD, s1.fresh hD, upd_same, rfl, q1⟩, ?_⟩
    rintro i m H' ⟨rfl, hi, ρ', M', acc, accv, x', s', nD, hDl, ra, q'⟩
    by_cases hlt : i < xs.length
    · have hx : xs[i]? = some xs[i] := List.getElem?_eq_getElem hlt
      obtain ⟨go, yl⟩ := (r1 ρ' H' x'.toExtB).2 i xs[i] hx
      refine .inr ⟨go, fun H2 => ∃ ρ' M' acc accv, Ext ρ1 H1 ρ' H2 ∧ RelS F ρ' H2 M' ∧ D ∉ ρ' ∧ H2 D = some (.lst accv) ∧ Rps F ρ' H2 acc accv ∧ oK F (Rp F) (fun c d H' => Wx c d τ H') Q ρ1 H1 ((flatL (itemLc (own.map (·.2)) g fq fe σ) (xs.drop (i + 1)) M').bind fun ws M2 => mkL fz (acc ++ ws) M2),
        fun H2 h => ⟨xs.length - (i + 1), by omega, rfl, hlt, h⟩, fun v H2 y => ?_⟩
      obtain ⟨x2, s2, r2⟩ := yl v H2 y
      rw [List.drop_eq_getElem_cons hlt] at q'
      cases eg : g xs[i] (wipeW σ (own.map (·.2))) M' with
      | none =>
        exfalso
        have : itemLc (own.map (·.2)) g fq fe σ xs[i] M' = .fail := by unfold itemLc; rw [eg]
        rw [flatL_cons, this] at q'
        exact q'
      | some σ1 =>
        refine ⟨ρ', _, M', xs[i], s2 M' s', wipe_rel ((rg.mono x1).mono (x'.trans x2)) _, r2, σ1, eg, fun τ1 g1 t1 => ⟨(Touch.wipe t1 his).trans (wipe_wipe τ _), ρ', σ1, M', s2 M' s', g1, ?_⟩⟩
        have hD2 : H2 D = some (.lst accv) := x2.fr D _ nD True.intro hDl
        cases eq : fq σ1 M' with
        | exc c es M3 =>
          exfalso
          have : itemLc (own.map (·.2)) g fq fe σ xs[i] M' = .fail := by unfold itemLc; rw [eg]; dsimp only; rw [eq]; rfl
          rw [flatL_cons, this] at q'
          exact q'
        | fail =>
          exfalso
          have : itemLc (own.map (·.2)) g fq fe σ xs[i] M' = .fail := by unfold itemLc; rw [eg]; dsimp only; rw [eq]; rfl
          rw [flatL_cons, this] at q'
          exact q'
        | ok k M3 =>
          intro ρ3 b H3 x3 s3 rb
          cases (show k = b from rb)
          have nD3 : D ∉ ρ3 := fun z => by
            have := x3.nw D z nD
            rw [hD2] at this; cases this
          have hD3 : H3 D = some (.lst accv) := x3.fr D _ nD3 True.intro hD2
          cases k with
          | false =>
            rw [if_neg Bool.false_ne_true]
            have e1 : itemLc (own.map (·.2)) g fq fe σ xs[i] M' = .ok [] M3 := by unfold itemLc; rw [eg]; dsimp only; rw [eq]; rfl
            rw [rest_step e1, List.append_nil] at q'
            exact ⟨ρ3, M3, acc, accv, (x'.trans x2).trans x3, s3, nD3, hD3, Rps.mono (x2.trans x3) _ _ ra, q'⟩
          | true =>
            rw [if_pos rfl]
            refine ⟨ρ3, σ1, M3, s3, g1.mono x3, ?_⟩
            cases ee : fe σ1 M3 with
            | exc c es M4 =>
              exfalso
              have : itemLc (own.map (·.2)) g fq fe σ xs[i] M' = .fail := by unfold itemLc; rw [eg]; dsimp only; rw [eq]; show (calmO (fe σ1 M3)).bind _ = _; rw [ee]; rfl
              rw [flatL_cons, this] at q'
              exact q'
            | fail =>
              exfalso
              have : itemLc (own.map (·.2)) g fq fe σ xs[i] M' = .fail := by unfold itemLc; rw [eg]; dsimp only; rw [eq]; show (calmO (fe σ1 M3)).bind _ = _; rw [ee]; rfl
              rw [flatL_cons, this] at q'
              exact q'
            | ok w M4 =>
              intro ρ4 yv H4 x4 s4 r4
              have nD4 : D ∉ ρ4 := fun z => by
                have := x4.nw D z nD3
                rw [hD3] at this; cases this
              have hD4 : H4 D = some (.lst accv) := x4.fr D _ nD4 True.intro hD3
              have e1 : itemLc (own.map (·.2)) g fq fe σ xs[i] M' = .ok [w] M4 := by unfold itemLc; rw [eg]; dsimp only; rw [eq]; show (calmO (fe σ1 M3)).bind _ = _; rw [ee]; rfl
              rw [rest_step e1] at q'
              have hz := rest_len (fun x M => item_calm x M) q'
              have ra4 := Rps.mono ((x2.trans x3).trans x4) _ _ ra
              refine ⟨accv, hD4, by rw [ra4.length]; simp at hz; omega, ρ4, M4, acc ++ [w], accv ++ [yv], Ext.own (((x'.trans x2).trans x3).trans x4) hD hD4, s4.own nD4 hD4, nD4, upd_same, Rps.monoB (ExtB.own hD4) _ _ (Rps.append ra4 (Rps.one r4)), q'⟩
    · have ei : i = xs.length := by omega
      subst ei
      refine .inl ⟨(r1 ρ' H' x'.toExtB).1, ?_⟩
      rw [List.drop_length] at q'
      have q' : oK F (Rp F) (fun c d H' => Wx c d τ H') Q ρ1 H1 (mkL fz (acc ++ []) M') := q'
      rw [List.append_nil] at q'
      unfold mkL at q'
      split at q'
      · split at q'
        · refine .inr ⟨D, .lst accv, hDl, True.intro, fun od => ?_⟩
          exact q' ρ' (.ref D) _ (Ext.own x' hD hDl) (s'.own nD hDl) ⟨D, accv, rfl, ⟨od, upd_same⟩, Rps.monoB (ExtB.own hDl) _ _ ra⟩
        · refine .inl ?_
          have xb : ExtB ρ' H' (ρ' ++ [D]) H' := ⟨⟨[D], rfl⟩, fun _ _ h => h, fun _ _ _ h => h, fun _ _ h => h, fun _ _ h => h, fun _ h => h⟩
          refine q' (ρ' ++ [D]) (.ref D) H' ?_ ?_ ⟨D, ?_, rfl⟩
          · exact {
              pre := let ⟨t, e⟩ := x'.pre; ⟨t ++ [D], by rw [e, List.append_assoc]⟩
              nw := fun b hb n => by
                rcases List.mem_append.mp hb with z | z
                · exact x'.nw b z n
                · have : b = D := by simpa using z
                  rw [this]; exact hD
              tup := x'.tup
              frz := x'.frz
              xd := x'.xd
              tb := x'.tb
              tr := x'.tr
              fr := fun b o n => x'.fr b o fun z => n (List.mem_append_left _ z) }
          · refine ⟨by simp [s'.len], ?_, fun l o a h1 h2 => ?_, s'.tab⟩
            · rw [List.nodup_append]
              refine ⟨s'.nd, by simp, fun a ha b hb z => ?_⟩
              have : b = D := by simpa using hb
              subst this z
              exact nD ha
            · by_cases hl : l < M'.length
              · rw [List.getElem?_append_left hl] at h1
                rw [List.getElem?_append_left (by rw [s'.len]; exact hl)] at h2
                exact (s'.ob l o a h1 h2).keepB xb fun _ q => q
              · have el : l = M'.length := by
                  have := (List.getElem?_eq_some_iff.mp h1).1
                  simp at this; omega
                subst el
                simp at h1
                rw [← s'.len] at h2
                simp at h2
                subst h1 h2
                exact ⟨accv, hDl, Rps.monoB xb _ _ ra⟩
          · rw [← s'.len]; simp
      · exact q'.elim
theorem e_lc {elt tg iter : Expr} {ifs : List Expr} {scope : Scope} {own : List (Str × Nat)} {pos : Pos} {fi : FI} {is : List Nat} {g : W → Sg → Store → Option Sg} {fq : Sg → Store → Out Bool} {fe : FE} {fz : Bool} (hc : X.calm = true) (hN : X.N.Nodup) (hi : PI X tg iter (tI F Wx fi)) (ok : BlkOk X.N X.env.scope scope own)
    (his : ∀ i ∈ is, i ∈ own.map (·.2)) (hg : ∀ (s : Shared) (H : Hp) (C : Addr) (cl : List (Str × Addr)) (fp : List Addr), PG (X.blk s H scope (compEnvC scope cl C X.env) fp) tg (tGW F is g)) (ht : ∀ (s : Shared) (H : Hp) (C : Addr) (cl : List (Str × Addr)) (fp : List Addr), PTs (X.blk s H scope (compEnvC scope cl C X.env) fp) ifs (tQ F WN fq))
    (he : ∀ (s : Shared) (H : Hp) (C : Addr) (cl : List (Str × Addr)) (fp : List Addr), PE (X.blk s H scope (compEnvC scope cl C X.env) fp) elt (tE F WN fe)) (hs : ∀ x, foldedSetIterable iter X.env x = pure x) :
    PE X (.ListComp elt [⟨tg, iter, ifs, 0⟩] scope pos) (tE F Wx fun σ M => (fi σ M).bind fun xs M1 => (flatL (itemLc (own.map (·.2)) g fq fe σ) xs M1).bind (mkL fz)) := by
  exact PE.weak (PE.lockV (pe_lc hc hN hi ok hg ht he hs)) fun τ H Q q => lc_read his q

/-! ### name = [..] -/
def lkS (R : L2.St → Hp → Prop) : L2.St → Hp → Prop := fun τ H => R τ H ∨ ∃ (d : Addr) (o : HO), H d = some o ∧ Mut (some o) ∧ ∀ od, R τ (upd H d (.frz od o))
theorem PS.lockN {st : Stmt} {t : TS} (h : PS X st t) : PS X st (fun D τ H => t { D with nx := lkS D.nx } τ H) := by
  refine ⟨fun pins s τ H D I q => thn (h.run pins s τ H _ I q) fun f s1 z => ?_⟩
  cases f with
  | next =>
    obtain ⟨τ', H', I1, z⟩ := z
    rcases z with z | ⟨d, o, hd, m, z⟩
    · exact ⟨τ', H', I1, z⟩
    · obtain ⟨od, I2⟩ := I1.lock hd m
      exact ⟨τ', _, I2, z od⟩
  | brk => exact z
  | cont => exact z
  | ret u => exact z
/-- a local's name = [..] on one line -/
theorem s_setLc {i : Nat} {y : Str} {py : Pos} {elt tg iter : Expr} {ifs : List Expr} {scope : Scope} {own : List (Str × Nat)} {pos spos : Pos} {fi : FI} {is : List Nat} {g : W → Sg → Store → Option Sg} {fq : Sg → Store → Out Bool} {fe : FE} {fz : Bool} (his : ∀ i ∈ is, i ∈ own.map (·.2))
    (hps : PS X (.Assign [.Name y py] (.ListComp elt [⟨tg, iter, ifs, 0⟩] scope pos) spos) (tAsg (tLc (tI F Wx fi) (tGW F is g) (tQ F WN fq) (tE F WN fe) (own.map (·.2))) (gName i))) :
    PS X (.Assign [.Name y py] (.ListComp elt [⟨tg, iter, ifs, 0⟩] scope pos) spos) (tS F Wx fun σ M => ((fi σ M).bind fun xs M1 => (flatL (itemLc (own.map (·.2)) g fq fe σ) xs M1).bind (mkL fz)).st σ fun w M1 => .next (σ.set i (some w)) M1) := by
  refine PS.weak (PS.lockN hps) fun D τ H ⟨ρ, σ, M, rs, rg, q⟩ => ?_
  show tLc _ _ _ _ _ τ H (fun x H1 => lkS D.nx (τ.set i (some x)) H1)
  refine lc_read (fz := fz) (Q := fun x H1 => D.nx (τ.set i (some x)) H1) his ⟨ρ, σ, M, rs, rg, ?_⟩
  exact oK_st rg q fun w M1 _ ρ1 v H1 x s r q1 => q1 ρ1 H1 _ Ext.refl s ((rg.mono x).set r)
end
end Mp
set_option Elab.async false
set_option linter.all false
set_option maxRecDepth 100000
set_option maxHeartbeats 2000000
namespace Mp
open PySem PySem.Spec PyProof.Rows L2 SeqAt
section
variable {F : Fx} {Wx : WX} {X : Cx} {a tg : Expr} {f : FE} {p pos : Pos}
theorem PI.weak {iter : Expr} {t t' : TI} (h : PI X tg iter t) (k : ∀ τ H R, t' τ H R → t τ H R) : PI X tg iter t' := ⟨fun pins s σ H R I q => h.run pins s σ H R I (k _ _ _ q)⟩
theorem i_range (hg : Gl X "range") (hm : X.mg "range" = none) (ha : PE X a (tE F Wx f)) (hs1 : starEach [a] X.env = (false, eval a X.env) :: starEach [] X.env) (hs : starEach [a] X.env = [(false, eval a X.env)]) :
    PI X tg (.Call (.Name "range" p) [a] [] pos) (tI F Wx fun σ M => (f σ M).bind rangeO) := by
  refine PI.weak (pi_range1 hg hm (pa_cons ha pa_nil hs1) hs) fun τ H R ⟨ρ, σ, M, rs, rg, q⟩ => ?_
  refine tE_bind rs rg q fun ρ1 w M1 v H1 x1 rs1 rg1 r1 q1 => ?_
  unfold rangeO at q1
  split at q1
  · rename_i k
    cases (show v = .int k from r1)
    split at q1
    · rename_i z
      obtain ⟨z1, z2⟩ := Bool.and_eq_true_iff.mp z
      have z1 := of_decide_eq_true z1
      have z2 := of_decide_eq_true z2
      refine ⟨k, rfl, by omega, by omega, oK_ok q1 rs1 ?_⟩
      have hl : (rangeW k).length = k.toNat := by simp [rangeW]
      refine ItOk.same (fun ρ' H' _ => by rw [hl]; exact Nat.le_refl _) (fun ρ' H' i w _ e => ?_) fun ρ' H' i w v H2 _ e y => ?_
      · have := (List.getElem?_eq_some_iff.mp e).1
        rw [hl] at this
        exact this
      · obtain ⟨y1, rfl⟩ := y
        refine ⟨y1, ?_⟩
        have hi := (List.getElem?_eq_some_iff.mp e).1
        rw [hl] at hi
        unfold rangeW at e
        rw [List.getElem?_map, List.getElem?_range hi] at e
        cases e
        show V.int _ = V.int _
        simp
    · exact q1.elim
  · exact q1.elim
end
end Mp
set_option Elab.async false
set_option linter.all false
set_option maxRecDepth 100000
set_option maxHeartbeats 2000000
namespace Mp
open PySem PySem.Spec PyProof.Rows L2 SeqAt
section
variable {F : Fx} {Wx : WX} {X : Cx} {pins : List (Addr × Obj)} {τ : L2.St} {H : Hp} {s : Shared} {ρ : List Addr}
/-- what the deciders say of an own class: its fields are plain attributes, or slots in their order -/
structure ClsOk (F : Fx) (X : Cx) (c : Nat) (C : Addr) (fs : List Str) : Prop where
  same : ∀ ns, F.sl c = some ns → ∀ f ∈ fs, ∃ j : Nat, ns[j]? = some f
  at_ : F.cA c = some C
  pg : PySem.W.plainGet X.K C Str.empty = true
  ic : PySem.W.isClsIn X.K C = true
  plain : F.sl c = none → Cls X.K C ∧ ∀ f ∈ fs, NoAttr X.K C f
  slot : ∀ ns, F.sl c = some ns → SlX.SCls X.K C ∧ ∀ (i : Nat) (f : Str), ns[i]? = some f → ∃ p, SlX.Slot1 X.K C f p i
theorem RpF.get {f : Str} {w : W} : ∀ {es : List W} {fs : List (Str × V)}, RpF F ρ H es fs → fldE f es = some w → ∃ v, fs.lookup f = some v ∧ Rp F ρ H w v
  | [], _, _, e => by cases e
  | .kv (.str g) u :: es, fs, r, e => by
    obtain ⟨v, t, rfl, h1, h2⟩ := r
    unfold fldE at e
    cases q : decide (g = f) with
    | true =>
      rw [q] at e
      cases e
      have := of_decide_eq_true q
      subst this
      exact ⟨v, by simp [List.lookup], h1⟩
    | false =>
      rw [q] at e
      obtain ⟨v', e1, r1⟩ := RpF.get h2 e
      have hne : (f == g) = false := beq_eq_false_iff_ne.mpr fun z => of_decide_eq_false q z.symm
      exact ⟨v', by simp [List.lookup, hne, e1], r1⟩
  | .kv .non _ :: _, _, r, _ => r.elim
  | .kv (.bl _) _ :: _, _, r, _ => r.elim
  | .kv (.int _) _ :: _, _, r, _ => r.elim
  | .kv (.tup _) _ :: _, _, r, _ => r.elim
  | .kv (.lst _) _ :: _, _, r, _ => r.elim
  | .kv (.dic _) _ :: _, _, r, _ => r.elim
  | .kv (.kv _ _) _ :: _, _, r, _ => r.elim
  | .kv (.ins _ _) _ :: _, _, r, _ => r.elim
  | .kv (.ref _) _ :: _, _, r, _ => r.elim
  | .kv (.clo _ _) _ :: _, _, r, _ => r.elim
  | .non :: _, _, r, _ => r.elim
  | .bl _ :: _, _, r, _ => r.elim
  | .int _ :: _, _, r, _ => r.elim
  | .str _ :: _, _, r, _ => r.elim
  | .tup _ :: _, _, r, _ => r.elim
  | .lst _ :: _, _, r, _ => r.elim
  | .dic _ :: _, _, r, _ => r.elim
  | .ins _ _ :: _, _, r, _ => r.elim
  | .ref _ :: _, _, r, _ => r.elim
  | .clo _ _ :: _, _, r, _ => r.elim
theorem RpS.get {f : Str} {w : W} : ∀ {ns : List Str} {es : List W} {vs : List (Option V)}, RpS F ρ H ns es vs → fldE f es = some w → ∃ (i : Nat) (v : V), ns[i]? = some f ∧ vs[i]? = some (some v) ∧ Rp F ρ H w v
  | _, [], _, _, e => by cases e
  | ns, e0 :: es, vs, r, e => by
    cases e0 with
    | kv k u =>
      cases k with
      | str g =>
        obtain ⟨i0, v, e1, e2, h1, h2⟩ := r
        unfold fldE at e
        cases q : decide (g = f) with
        | true =>
          rw [q] at e
          cases e
          have := of_decide_eq_true q
          subst this
          exact ⟨i0, v, e1, e2, h1⟩
        | false =>
          rw [q] at e
          obtain ⟨i, v', e3, e4, r1⟩ := RpS.get h2 e
          have ne : i0 ≠ i := fun z => by
            subst z
            have hl := (List.getElem?_eq_some_iff.mp e2).1
            rw [List.getElem?_set_self hl] at e4
            cases e4
          rw [List.getElem?_set_ne ne] at e4
          exact ⟨i, v', e3, e4, r1⟩
      | _ => exact (show False from r).elim
    | _ => exact (show False from r).elim
theorem getslotR {A : Around} {E : Value → Shared → Prop} {a C dx p : Addr} {vs : List (Option V)} {f : Str} {i : Nat} {v : V} {b : Bool} {Q : Value → Shared → Prop} (I : Inv X pins τ H s) (h : SltR H a C dx vs) (c : SlX.SCls X.K C) (t : SlX.Slot1 X.K C f p i) (l : vs[i]? = some (some v)) (q : ∀ u s', Inv X pins τ H s' → RelV v u → Q u s') :
    wpAny (model X.prog X.w) A (PySem.getAttr (.ref a) f b) Q E s := by
  obtain ⟨sl, od, r, J, _⟩ := sltR_inst I h
  obtain ⟨u, eu, ru⟩ := r i v l
  obtain ⟨m, Fr0⟩ := I.fr
  refine PySem.W.get_slot Fr0 I.mod.kin J (c.get f) c.ic t.at_ t.get t.tk t.ix (v := u) ?_ (handed_of ru) (q u _ (I.tok _) ru)
  show (sl[i]?).join = some u
  rw [eu]
  rfl
theorem RpF.none {f : Str} : ∀ {es : List W} {fs : List (Str × V)}, RpF F ρ H es fs → fldE f es = none → fs.lookup f = none
  | [], _, r, _ => by cases (show _ = [] from r); rfl
  | e0 :: es, fs, r, e => by
    cases e0 with
    | kv k u =>
      cases k with
      | str g =>
        obtain ⟨v, t, rfl, h1, h2⟩ := r
        unfold fldE at e
        cases q : decide (g = f) with
        | true => rw [q] at e; cases e
        | false =>
          rw [q] at e
          have hne : (f == g) = false := beq_eq_false_iff_ne.mpr fun z => of_decide_eq_false q z.symm
          simp [List.lookup, hne, RpF.none h2 e]
      | _ => exact (show False from r).elim
    | _ => exact (show False from r).elim
/-- an instance that is read: of the store or frozen, plain or slotted -/
def InsR (F : Fx) (ρ : List Addr) (H : Hp) (c : Nat) (C a : Addr) (es : List W) : Prop := (∃ dx fs, F.sl c = none ∧ Rd H a (.ins C dx fs) ∧ RpF F ρ H es fs) ∨ ∃ ns dx vs, F.sl c = some ns ∧ SltR H a C dx vs ∧ RpS F ρ H ns es vs
theorem insR_rp {c : Nat} {es : List W} {x : V} (ra : Rp F ρ H (.ins c es) x) : ∃ a C, x = .ref a ∧ F.cA c = some C ∧ InsR F ρ H c C a es := by
  obtain ⟨a, C, dx, o, rfl, h1, h⟩ := ra
  rcases h with ⟨vs, ns, h2, h3, h4, h5⟩ | ⟨fs, h2, h3, h4⟩
  · exact ⟨a, C, rfl, h1, .inr ⟨ns, dx, vs, h2, .inr ⟨o, h3, h4⟩, h5⟩⟩
  · exact ⟨a, C, rfl, h1, .inl ⟨dx, fs, h2, .inr ⟨o, h3⟩, h4⟩⟩
theorem insR_of {M : Store} {w : W} {x : V} {c : Nat} {es : List W} (rs : RelS F ρ H M) (ra : Rp F ρ H w x) (e : insOf M w = some (c, es)) : ∃ a C, x = .ref a ∧ F.cA c = some C ∧ InsR F ρ H c C a es := by
  have hr := rd_rel rs ra
  unfold insOf at e
  split at e
  · rename_i c' es' z
    cases e
    rw [z] at hr
    exact insR_rp hr
  · rename_i l z
    rw [z] at hr
    obtain ⟨a, hl, rfl⟩ := hr
    split at e
    · rename_i c' es' em
      cases e
      obtain ⟨C, dx, h1, ob⟩ := rs.ob l _ a em hl
      refine ⟨a, C, rfl, h1, ?_⟩
      cases hs : F.sl c with
      | none =>
        rw [hs] at ob
        obtain ⟨gs, h2, h3⟩ := ob
        exact .inl ⟨dx, gs, hs, .inl h2, h3⟩
      | some ns =>
        rw [hs] at ob
        obtain ⟨vs, h2, h3, _⟩ := ob
        exact .inr ⟨ns, dx, vs, hs, .inl h2, h3⟩
    · cases e
  · cases e
theorem ins_getR {a C dx : Addr} {fs : List (Str × V)} (I : Inv X pins τ H s) (e : Rd H a (.ins C dx fs)) : ∃ mA, ObjM s.heap a dx C mA ∧ ∀ f, RelO (fs.lookup f) (mA f) := by
  obtain ⟨d, z, ne, ob, mA, n, r, q⟩ := (show ObjOk X.prog X.w H s.heap a (.ins C dx fs) from e.ok I.hok)
  exact ⟨mA, ⟨ob, n, ne⟩, r⟩
/-- its object -/
theorem insR_at {c : Nat} {C a : Addr} {es : List W} (I : Inv X pins τ H s) (r : InsR F ρ H c C a es) : ∃ (ox od : Obj), PySem.W.InstAt s.heap a ox C (some od) ∧ ∀ f, fldE f es = none → PySem.W.lookIn f od = some Option.none := by
  rcases r with ⟨dx, fs, _, h1, h2⟩ | ⟨ns, dx, vs, _, h1, h2⟩
  · obtain ⟨mA, O, r⟩ := ins_getR I h1
    obtain ⟨od, J, hl⟩ := O.look
    exact ⟨_, od, J, fun f e => by
      have z := r f
      rw [h2.none e] at z
      rw [hl f, RelO.none_of z]⟩
  · obtain ⟨sl, od, _, J, hl⟩ := sltR_inst I h1
    exact ⟨_, od, J, fun f _ => hl f⟩
/-- o.f, f a field -/
theorem getF_ok {M : Store} {w v : W} {x : V} {u : Value} {c : Nat} {C : Addr} {es : List W} {fs : List Str} {f : Str} {b : Bool} {Q : VK} (I : Inv X pins τ H s) (rs : RelS F ρ H M) (ra : Rp F ρ H w x) (rx : RelV x u) (e : insOf M w = some (c, es)) (ef : fldE f es = some v) (co : ClsOk F X c C fs) (hf : f ∈ fs)
    (q : ∀ vv, Rp F ρ H v vv → Q vv H) : wpAny (model X.prog X.w) X.A (PySem.getAttr u f b) (EP X pins τ Q) X.xe s := by
  obtain ⟨a, C', rfl, h1, r⟩ := insR_of rs ra e
  rw [co.at_] at h1
  cases h1
  cases rx
  rcases r with ⟨dx, gs, hs, h2, h3⟩ | ⟨ns, dx, vs, hs, h2, h3⟩
  · obtain ⟨cl, na⟩ := co.plain hs
    obtain ⟨vv, e1, r⟩ := RpF.get h3 ef
    obtain ⟨mA, O, ro⟩ := ins_getR I h2
    obtain ⟨u, hu, ru⟩ := RelO.some_of (v := vv) (o := mA f) (by rw [← e1]; exact ro f)
    exact get_map I.kIn O (cl.get f) cl.hd (na f hf) hu (handed_of ru) ⟨vv, H, I.tok _, ru, q vv r⟩
  · obtain ⟨sc, sl⟩ := co.slot ns hs
    obtain ⟨i, vv, e1, e2, r⟩ := RpS.get h3 ef
    obtain ⟨p, t⟩ := sl i f e1
    exact getslotR I h2 sc t e2 fun u' s' I' ru => ⟨vv, H, I', ru, q vv r⟩
/-- o.m, m a def of the class -/
theorem meth_at {c : Nat} {C a g : Addr} {es : List W} {m : Str} {pl : Sem Bool} {Q : Value × List Value → Shared → Prop} (I : Inv X pins τ H s) (r : InsR F ρ H c C a es) (ef : fldE m es = none) (pg : PySem.W.plainGet X.K C Str.empty = true) (k : Meth X.K C m g) (q : Q (.ref g, [.ref a]) s) :
    wpAny (model X.prog X.w) X.A (getMethod (.ref a) m pl) Q X.xe s := by
  obtain ⟨ox, od, J, hl⟩ := insR_at I r
  have pg : PySem.W.plainGet X.K C m = true := pg
  refine PySem.W.method_fn I.kIn J (PySem.W.plainGet_of pg).1 (PySem.W.plainGet_of pg).2 k.at_ (beq_iff_eq.mp k.fn) ?_ q
  show (PySem.W.lookIn m od).map (·.isSome) = some false
  rw [hl m ef]
  rfl
/-- o.f, f a property -/
theorem prop_at {CX : CXT} {n : Nat} {c : Nat} {C a p g : Addr} {es : List W} {f : Str} {fd : FuncData} {ps : List Str} {sp : Sp} {E : XK} {b : Bool} {Q : VK} (I : Inv X pins τ H s) (r : InsR F ρ H c C a es) (pg : PySem.W.plainGet X.K C Str.empty = true) (ic : PySem.W.isClsIn X.K C = true) (hp : PropOf X.K C f p g)
    (F1 : FnOk X.prog X.w X.K X.mg X.base CX n g fd ps sp) (hr : Room (n + 1) X.A) (hb : L2.Binds X.K fd ps []) (hx : Passes CX X.nox E) (q : sp [.ref a] H Q E) : wpAny (model X.prog X.w) X.A (PySem.getAttr (.ref a) f b) (EP X pins τ Q) X.xe s := by
  obtain ⟨ox, od, J, hl⟩ := insR_at I r
  obtain ⟨rest, hrec⟩ := hp.rec_
  have pg : PySem.W.plainGet X.K C f = true := pg
  have I1 : Inv X pins τ H { s with toks := s.toks + 1 } := I.tok (s.toks + 1)
  have hl1 : ([Value.ref a] ++ []).length = ps.length := by
    rw [← F1.len _ _ _ _ q]
    rfl
  refine PySem.W.get_bind I.kIn J (PySem.W.plainGet_of pg).1 (PySem.W.findObj_data ic hp.at_ hp.get hp.tak) (PySem.W.plainGet_of pg).2 (wpAny_call (PySem.W.prop_get (s := { s with toks := s.toks + 1 }) I.kIn hrec ?_))
  refine codeAny_mono (F1.run X.A.in1 X.stack { s with toks := s.toks + 1 } H ⟨[.ref a], []⟩ (.ref a :: []) (.ref a :: []) Q E hr.in1 I1.env0.in1 (hb _ [.ref a] I1.kIn hl1) (.cons rfl .nil) q) fun r s' hq => ?_
  cases r with
  | error er => exact False.elim (hx pins τ H { s with toks := s.toks + 1 } er s' (I1.wish _) hq)
  | ok fl =>
    cases fl with
    | ret u =>
      obtain ⟨v, H', I3, rv, q3⟩ := I1.after hq
      show wpAny _ _ (handedOut u) _ _ _
      rw [PySem.W.handedOut_of (handed_of rv)]
      exact wpAny_pure ⟨v, H', I3, rv, q3⟩
    | next => exact False.elim hq
    | brk => exact False.elim hq
    | cont => exact False.elim hq
end
end Mp
set_option Elab.async false
set_option linter.all false
set_option maxRecDepth 100000
set_option maxHeartbeats 2000000
namespace Mp
open PySem PySem.Spec PyProof.Rows L2 SeqAt
section
variable {F : Fx} {Wx : WX} {X : Cx} {pins : List (Addr × Obj)} {τ : L2.St} {H : Hp} {s : Shared} {ρ : List Addr}
theorem memS_mem {f : Str} : ∀ {l : List Str}, memS f l = true → f ∈ l
  | [], h => by cases h
  | g :: r, h => by
    unfold memS at h
    cases q : decide (g = f) with
    | true =>
      have := of_decide_eq_true q
      rw [this]
      exact List.mem_cons_self
    | false =>
      rw [q] at h
      exact List.mem_cons_of_mem _ (memS_mem h)
theorem RpF.str {w : W} {r : List W} {fs : List (Str × V)} (h : RpF F ρ H (w :: r) fs) : ∃ g u, w = .kv (.str g) u := by
  cases w with
  | kv k u =>
    cases k with
    | str g => exact ⟨g, u, rfl⟩
    | _ => exact (show False from h).elim
  | _ => exact (show False from h).elim
theorem RpF.len : ∀ {es : List W} {fs : List (Str × V)}, RpF F ρ H es fs → fs.length = es.length
  | [], fs, h => by cases (show fs = [] from h); rfl
  | e0 :: es, fs, h => by
    obtain ⟨g, u, rfl⟩ := RpF.str h
    obtain ⟨v, t, rfl, _, h2⟩ := h
    simp [RpF.len h2]
theorem RpF.put {f : Str} {w : W} {v : V} (rw' : Rp F ρ H w v) : ∀ {es : List W} {fs : List (Str × V)}, RpF F ρ H es fs → RpF F ρ H (putFE f w es) (putF f v fs)
  | [], fs, h => by
    cases (show fs = [] from h)
    exact ⟨v, [], rfl, rw', rfl⟩
  | e0 :: es, fs, h => by
    obtain ⟨g, u, rfl⟩ := RpF.str h
    obtain ⟨y, t, rfl, h1, h2⟩ := h
    unfold putFE putF
    by_cases q : g = f
    · rw [decide_eq_true q, if_pos q]
      exact ⟨v, t, rfl, rw', h2⟩
    · rw [decide_eq_false q, if_neg q]
      exact ⟨y, _, rfl, h1, RpF.put rw' h2⟩
/-- a slot more, or another value in one -/
theorem putS_len (i : Nat) (v : V) (vs : List (Option V)) : SlX.putS (i + 1) v vs = match vs with | [] => none :: SlX.putS i v [] | o :: r => o :: SlX.putS i v r := by
  cases vs with
  | nil =>
    unfold SlX.putS
    simp [List.replicate_succ]
  | cons o r =>
    unfold SlX.putS
    simp
theorem putS_set {i : Nat} {v : V} {vs : List (Option V)} {y : Option V} (h : vs[i]? = some y) : (SlX.putS i v vs).set i none = vs.set i none := by
  have hl := (List.getElem?_eq_some_iff.mp h).1
  unfold SlX.putS
  rw [show i + 1 - vs.length = 0 by omega, List.replicate_zero, List.append_nil, List.set_set]
theorem putS_comm {i k : Nat} {v : V} {vs : List (Option V)} {y : Option V} (h : vs[k]? = some y) (n : i ≠ k) : (SlX.putS i v vs).set k none = SlX.putS i v (vs.set k none) := by
  have hl := (List.getElem?_eq_some_iff.mp h).1
  unfold SlX.putS
  rw [List.length_set, List.set_comm _ _ n, List.set_append_left _ _ hl]
theorem RpS.put {f : Str} {w : W} {v : V} (rw' : Rp F ρ H w v) : ∀ {ns : List Str} {es : List W} {vs : List (Option V)}, RpS F ρ H ns es vs → (fldE f es = none → ∃ j : Nat, ns[j]? = some f) → ∃ i : Nat, ns[i]? = some f ∧ RpS F ρ H ns (putFE f w es) (SlX.putS i v vs)
  | ns, [], vs, h, e => by
    obtain ⟨j, ej⟩ := e rfl
    have h : ∀ (i : Nat) (x : V), vs[i]? ≠ some (some x) := h
    refine ⟨j, ej, j, v, ej, SlX.putS_get j v vs, rw', fun i x z => ?_⟩
    by_cases q : j = i
    · subst q
      have hl := (List.getElem?_eq_some_iff.mp (SlX.putS_get j v vs)).1
      rw [List.getElem?_set_self hl] at z
      cases z
    · rw [List.getElem?_set_ne q] at z
      exact h i x ((SlX.putS_ne (Ne.symm q)).mp z)
  | ns, e0 :: es, vs, h, e => by
    cases e0 with
    | kv k u =>
      cases k with
      | str g =>
        obtain ⟨i0, y, e1, e2, h1, h2⟩ := h
        unfold putFE
        by_cases q : g = f
        · rw [decide_eq_true q]
          subst q
          exact ⟨i0, e1, i0, v, e1, SlX.putS_get i0 v vs, rw', by rw [putS_set e2]; exact h2⟩
        · rw [decide_eq_false q]
          obtain ⟨i, h3, h4⟩ := RpS.put rw' h2 (fun z => e (by unfold fldE; rw [decide_eq_false q]; exact z))
          have ne : i ≠ i0 := fun z => by
            rw [z, e1] at h3
            exact q (Option.some.inj h3)
          exact ⟨i, h3, i0, y, e1, (SlX.putS_ne (Ne.symm ne)).mpr e2, h1, by rw [putS_comm e2 ne]; exact h4⟩
      | _ => exact (show False from h).elim
    | _ => exact (show False from h).elim
theorem slO_ne {a C dx : Addr} {vs : List (Option V)} {q : Str} : SlX.SlO a C dx vs ≠ LamX.CodeO a q := fun z => by
  unfold SlX.SlO LamX.CodeO at z
  obtain ⟨h, oc, us, t, e1, e2, e3⟩ := code_at a q
  have z2 := HO.ext.inj z
  obtain ⟨sl, e4, _⟩ : ∃ sl : Array (Option Value), h.get? a = some { PySem.W.instObj C dx with slots := sl } ∧ SlX.SlR vs sl := by
    rw [show (∃ sl : Array (Option Value), h.get? a = some { PySem.W.instObj C dx with slots := sl } ∧ SlX.SlR vs sl) = _ from congrFun z2 h]
    exact ⟨oc, us, t, e1, e2, e3⟩
  rw [e1] at e4
  cases e4
  cases e2
theorem ObR.not_own {a : Addr} {o : MObj} (h : ObR F ρ H a o) : (∀ x, H a ≠ some (.own x)) ∧ ∀ fs, H a ≠ some (.xd fs) := by
  cases o with
  | lst ws => obtain ⟨xs, e, _⟩ := h; rw [e]; exact ⟨fun x z => (by cases z), fun x z => by cases z⟩
  | dic es => obtain ⟨ds, _, e, _⟩ := h; rw [e]; exact ⟨fun x z => (by cases z), fun x z => by cases z⟩
  | ins c es =>
    obtain ⟨C, dx, _, h⟩ := h
    cases q : F.sl c with
    | none => rw [q] at h; obtain ⟨fs, e, _⟩ := h; rw [e]; exact ⟨fun x z => (by cases z), fun x z => by cases z⟩
    | some ns =>
      rw [q] at h
      obtain ⟨vs, s, _⟩ := h
      rcases s with ⟨e, _⟩ | ⟨e, _⟩ <;> (rw [e]; exact ⟨fun x z => (by cases z), fun x z => by cases z⟩)
  | frz w => obtain ⟨_, o, u, e⟩ := h; rw [e]; exact ⟨fun x z => (by cases z), fun x z => by cases z⟩
/-- o.f = v, o an instance of the store -/
theorem setF_ok {G : Gm} {M M' : Store} {l : Nat} {w : W} {x v : V} {u uv : Value} {c : Nat} {es : List W} {f : Str} {Q : Hp → Prop} (I : Inv X pins τ H s) (rs : RelS F ρ H M) (ra : Rp F ρ H (.ref l) x) (rx : RelV x u) (rv : Rp F ρ H w v) (ru : RelV v uv) (em : M[l]? = some (.ins c es)) (hC : ∀ c i, G.cls c = some i → ∃ D, ClsOk F X c D i.flds)
    (e : setAttrW G (.ref l) f w M = some M') (q : ∀ H', Ext ρ H ρ H' → RelS F ρ H' M' → Q H') : wpAny (model X.prog X.w) X.A (PySem.setAttr u f uv) (fun _ s' => ∃ H', Inv X pins τ H' s' ∧ Q H') X.xe s := by
  obtain ⟨a, hl, rfl⟩ := ra
  cases rx
  unfold setAttrW at e
  dsimp only at e
  rw [em] at e
  dsimp only at e
  cases hz : mayPut G c f es && Nat.blt es.length 900 with
  | false => rw [hz] at e; cases e
  | true =>
    rw [hz] at e
    cases e
    obtain ⟨hm, hz⟩ := Bool.and_eq_true_iff.mp hz
    have hz := Nat.le_of_ble_eq_true hz
    obtain ⟨i, C, co, hf, hm⟩ : ∃ (i : ClsI) (C : Addr), ClsOk F X c C i.flds ∧ f ∈ i.flds ∧ (fldE f es = none → i.flds[es.length]? = some f) := by
      unfold mayPut at hm
      split at hm
      · rename_i i eg
        obtain ⟨D, co⟩ := hC c i eg
        obtain ⟨h1, h2⟩ := Bool.and_eq_true_iff.mp hm
        refine ⟨i, D, co, memS_mem h1, fun z => ?_⟩
        rw [z] at h2
        dsimp only at h2
        split at h2
        · rename_i g z2
          rw [z2, of_decide_eq_true h2]
        · cases h2
      · cases hm
    obtain ⟨C', dx, h1, ob⟩ := rs.ob l _ a em hl
    rw [co.at_] at h1
    cases h1
    cases hs : F.sl c with
    | none =>
      rw [hs] at ob
      obtain ⟨gs, h2, h3⟩ := ob
      obtain ⟨cl, na⟩ := co.plain hs
      have x := Ext.write (u := .ins C dx (putF f v gs)) (List.mem_of_getElem? hl) h2 True.intro (fun q z => nomatch z)
      refine setattr_ok I h2 cl (na f hf) (by rw [h3.len]; omega) ru fun s' I' => ⟨_, I', q _ x (rs.put hl h2 True.intro (fun q z => nomatch z) ⟨C, dx, co.at_, ?_⟩)⟩
      rw [hs]
      exact ⟨_, upd_same, RpF.monoB x.toExtB _ _ (RpF.put rv h3)⟩
    | some ns =>
      rw [hs] at ob
      obtain ⟨vs, h2, h3, hne⟩ := ob
      obtain ⟨sc, sl⟩ := co.slot ns hs
      obtain ⟨j, e1, e2⟩ := RpS.put rv h3 fun _ => co.same ns hs f hf
      obtain ⟨p, t⟩ := sl j f e1
      have ha : ∃ o, H a = some o ∧ Mut (some o) ∧ ∀ q, o ≠ LamX.CodeO a q := by
        rcases h2 with ⟨z, _⟩ | ⟨z, _⟩
        · exact ⟨_, z, True.intro, fun q z => nomatch z⟩
        · exact ⟨_, z, True.intro, fun q => slO_ne⟩
      obtain ⟨o, ha, hmu, hnc⟩ := ha
      have hd : (∃ x, H dx = some (.own x)) ∨ H dx = some (.xd []) := by
        rcases h2 with ⟨z, _⟩ | ⟨_, z⟩
        · obtain ⟨_, _, _, _, _, hd⟩ := ins_get I.hok z
          exact .inl ⟨a, hd⟩
        · exact .inr z
      have ndx : dx ∉ ρ := fun z => by
        obtain ⟨k, hk, ek⟩ := List.getElem_of_mem z
        have hM : k < M.length := by rw [← rs.len]; exact hk
        have ob := rs.ob k M[k] dx (List.getElem?_eq_getElem hM) (by rw [← ek]; exact List.getElem?_eq_getElem hk)
        rcases hd with ⟨x, hd⟩ | hd
        · exact ob.not_own.1 x hd
        · exact ob.not_own.2 _ hd
      have xd : Ext ρ H ρ (upd H dx (.xd [])) := {
        pre := ⟨[], by simp⟩
        nw := fun b hb n => absurd hb n
        tup := fun b xs e => by rw [upd_ne (fun z => by rw [z] at e; rcases hd with ⟨x, hd⟩ | hd <;> (rw [hd] at e; cases e))]; exact e
        frz := fun b o u e => by rw [upd_ne (fun z => by rw [z] at e; rcases hd with ⟨x, hd⟩ | hd <;> (rw [hd] at e; cases e))]; exact e
        xd := fun b fs e => by
          by_cases z : b = dx
          · rw [z] at e ⊢
            rcases hd with ⟨x, hd⟩ | hd
            · rw [hd] at e; cases e
            · rw [hd] at e; cases e; exact upd_same
          · rw [upd_ne z]; exact e
        tb := fun b q t => t.keep fun c u e z => by
          rw [upd_ne (fun y => by
            subst y
            rcases hd with ⟨x, hd⟩ | hd
            · rw [hd] at e; cases e
              rcases z with ⟨ps, z⟩ | z
              · cases z
              · unfold LamX.CodeO at z; cases z
            · rw [hd] at e; cases e
              rcases z with ⟨ps, z⟩ | z
              · cases z
              · unfold LamX.CodeO at z; cases z)]
          exact e
        tr := fun b e => by
          by_cases q : b = dx
          · rw [q, upd_same]; exact fun z => nomatch z
          · rw [upd_ne q]; exact e
        fr := fun b o n m e => by rw [upd_ne (fun z => by rw [z] at e; rcases hd with ⟨x, hd⟩ | hd <;> (rw [hd] at e; cases e; exact m))]; exact e }
      have rs1 : RelS F ρ (upd H dx (.xd [])) M := rs.keep xd fun b u hb e => by rw [upd_ne (fun z => ndx (by rw [← z]; exact hb))]; exact e
      have ha1 : (upd H dx (.xd [])) a = some o := by rw [upd_ne (fun z => hne z.symm)]; exact ha
      have x1 := Ext.write (u := SlX.SlO a C dx (SlX.putS j v vs)) (List.mem_of_getElem? hl) ha1 hmu hnc
      refine SlX.setslot_ok I h2 sc t ru fun s' I' => ⟨_, I', q _ (xd.trans x1) (rs1.put hl ha1 hmu hnc ⟨C, dx, co.at_, ?_⟩)⟩
      rw [hs]
      exact ⟨_, .inr ⟨upd_same, by rw [upd_ne hne, upd_same]⟩, RpS.monoB (xd.trans x1).toExtB _ _ _ e2, hne⟩
end
end Mp
set_option Elab.async false
set_option linter.all false
set_option maxRecDepth 100000
set_option maxHeartbeats 2000000
namespace Mp
open PySem PySem.Spec PyProof.Rows L2 SeqAt
section
variable {F : Fx} {Wx : WX} {X : Cx} {G : Gm} {C : Orc}
/-! ### calls of defs -/
structure Callee (F : Fx) (X : Cx) (C : Orc) (n : Nat) (g : Addr) (np : Nat) : Prop where
  ok : ∃ fd ps, ps.length = np ∧ FnOk X.prog X.w X.K X.mg X.base (L2.CX X.prog X.w) (n + 1) g fd ps (spC F C n np) ∧ L2.Binds X.K fd ps []
  kp : PySem.W.keepIn X.K (.ref g) = true
  ar : ∀ ws M, ws.length ≠ np → C n ws M = .fail
theorem Ext.nil {ρ ρ' : List Addr} {H H' : Hp} {M : Store} (rs : RelS F ρ H M) (x : Ext [] H ρ' H') : Ext ρ H ρ H' ∧ RelS F ρ H' M := by
  have key : ∀ b o, b ∈ ρ → H b = some o → H' b = some o := fun b o hb e => by
    obtain ⟨k, hk, ek⟩ := List.getElem_of_mem hb
    have hM : k < M.length := by rw [← rs.len]; exact hk
    have ob := rs.ob k M[k] b (List.getElem?_eq_getElem hM) (by rw [← ek]; exact List.getElem?_eq_getElem hk)
    have hb' : b ∉ ρ' := fun z => by
      have := x.nw b z (by simp)
      rw [e] at this; cases this
    have mu : ∀ u, H b = some u → Mut (some u) → H' b = some u := fun u e m => x.fr b u hb' m e
    revert ob
    generalize M[k] = o'
    intro ob
    cases o' with
    | lst ws => obtain ⟨xs, z, _⟩ := ob; exact mu o e (by rw [z] at e; cases e; exact True.intro)
    | dic es => obtain ⟨ds, _, z, _⟩ := ob; exact mu o e (by rw [z] at e; cases e; exact True.intro)
    | ins c es =>
      obtain ⟨C, dx, _, ob⟩ := ob
      cases q : F.sl c with
      | none => rw [q] at ob; obtain ⟨fs, z, _⟩ := ob; exact mu o e (by rw [z] at e; cases e; exact True.intro)
      | some ns =>
        rw [q] at ob
        obtain ⟨vs, z, _⟩ := ob
        rcases z with ⟨z, _⟩ | ⟨z, _⟩ <;> exact mu o e (by rw [z] at e; cases e; exact True.intro)
    | frz w => obtain ⟨_, o2, u, z⟩ := ob; rw [z] at e; cases e; exact x.frz _ _ _ z
  have xx : Ext ρ H ρ H' := {
    pre := ⟨[], by simp⟩
    nw := fun b hb n => absurd hb n
    tup := x.tup
    frz := x.frz
    xd := x.xd
    tb := x.tb
    tr := x.tr
    fr := fun b o n m e => x.fr b o (fun z => by have := x.nw b z (by simp); rw [e] at this; cases this) m e }
  exact ⟨xx, rs.keep xx fun a u ha e => key a u ha e⟩
mutual
theorem Rp.inl {ρ ρ' : List Addr} : ∀ (w : W) (v : V), inl w = true → Rp F ρ H w v → Rp F ρ' H w v
  | .non, _, _, h => h
  | .bl _, _, _, h => h
  | .int _, _, _, h => h
  | .str _, _, _, h => h
  | .tup ws, v, i, h => by
    obtain ⟨p, xs, e, h1, h2⟩ := h
    exact ⟨p, xs, e, h1, Rps.inl ws xs i h2⟩
  | .lst ws, v, i, h => by
    obtain ⟨p, xs, e, h1, h2⟩ := h
    exact ⟨p, xs, e, h1, Rps.inl ws xs i h2⟩
  | .dic es, v, i, h => by
    obtain ⟨p, ds, e, h0, h1, h2, h3, h4⟩ := h
    exact ⟨p, ds, e, h0, h1, h2, h3, RpE.inl es ds i h4⟩
  | .kv _ _, _, _, h => h
  | .ins c es, v, i, h => by
    obtain ⟨p, C, dx, o, e, h1, h⟩ := h
    rcases h with ⟨vs, ns, h2, h3, h4, h5⟩ | ⟨fs, h2, h3, h4⟩
    · exact ⟨p, C, dx, o, e, h1, .inl ⟨vs, ns, h2, h3, h4, RpS.inl ns es vs i h5⟩⟩
    · exact ⟨p, C, dx, o, e, h1, .inr ⟨fs, h2, h3, RpF.inl es fs i h4⟩⟩
  | .ref l, v, i, h => by cases i
  | .clo _ _, _, _, h => h
theorem Rps.inl {ρ ρ' : List Addr} : ∀ (ws : List W) (vs : List V), inls ws = true → Rps F ρ H ws vs → Rps F ρ' H ws vs
  | [], _, _, h => h
  | w :: ws, vs, i, h => by
    obtain ⟨i1, i2⟩ := Bool.and_eq_true_iff.mp (show (Mp.inl w && Mp.inls ws) = true from i)
    obtain ⟨v, r, e, h1, h2⟩ := h
    exact ⟨v, r, e, Rp.inl w v i1 h1, Rps.inl ws r i2 h2⟩
theorem RpE.inl {ρ ρ' : List Addr} : ∀ (es : List W) (ds : List DictEntry), inls es = true → RpE F ρ H es ds → RpE F ρ' H es ds
  | [], _, _, h => h
  | .kv k v :: es, ds, i, h => by
    obtain ⟨i1, i2⟩ := Bool.and_eq_true_iff.mp (show ((Mp.inl k && Mp.inl v) && Mp.inls es) = true from i)
    obtain ⟨i3, i4⟩ := Bool.and_eq_true_iff.mp i1
    obtain ⟨d, r, e, h0, ⟨x, hx, h1⟩, ⟨y, hy, h2⟩, h3⟩ := h
    exact ⟨d, r, e, h0, ⟨x, hx, Rp.inl k x i3 h1⟩, ⟨y, hy, Rp.inl v y i4 h2⟩, RpE.inl es r i2 h3⟩
  | .non :: _, _, _, h => h
  | .bl _ :: _, _, _, h => h
  | .int _ :: _, _, _, h => h
  | .str _ :: _, _, _, h => h
  | .tup _ :: _, _, _, h => h
  | .lst _ :: _, _, _, h => h
  | .dic _ :: _, _, _, h => h
  | .ins _ _ :: _, _, _, h => h
  | .ref _ :: _, _, _, h => h
  | .clo _ _ :: _, _, _, h => h
theorem RpS.inl {ρ ρ' : List Addr} : ∀ (ns : List Str) (es : List W) (vs : List (Option V)), inls es = true → RpS F ρ H ns es vs → RpS F ρ' H ns es vs
  | _, [], _, _, h => h
  | ns, .kv (.str f) w :: es, vs, i, h => by
    obtain ⟨i1, i2⟩ := Bool.and_eq_true_iff.mp (show ((Mp.inl (.str f) && Mp.inl w) && Mp.inls es) = true from i)
    obtain ⟨_, i4⟩ := Bool.and_eq_true_iff.mp i1
    obtain ⟨i0, v, e1, e2, h1, h2⟩ := h
    exact ⟨i0, v, e1, e2, Rp.inl w v i4 h1, RpS.inl ns es (vs.set i0 none) i2 h2⟩
  | _, .kv .non _ :: _, _, _, h => h
  | _, .kv (.bl _) _ :: _, _, _, h => h
  | _, .kv (.int _) _ :: _, _, _, h => h
  | _, .kv (.tup _) _ :: _, _, _, h => h
  | _, .kv (.lst _) _ :: _, _, _, h => h
  | _, .kv (.dic _) _ :: _, _, _, h => h
  | _, .kv (.kv _ _) _ :: _, _, _, h => h
  | _, .kv (.ins _ _) _ :: _, _, _, h => h
  | _, .kv (.ref _) _ :: _, _, _, h => h
  | _, .kv (.clo _ _) _ :: _, _, _, h => h
  | _, .non :: _, _, _, h => h
  | _, .bl _ :: _, _, _, h => h
  | _, .int _ :: _, _, _, h => h
  | _, .str _ :: _, _, _, h => h
  | _, .tup _ :: _, _, _, h => h
  | _, .lst _ :: _, _, _, h => h
  | _, .dic _ :: _, _, _, h => h
  | _, .ins _ _ :: _, _, _, h => h
  | _, .ref _ :: _, _, _, h => h
  | _, .clo _ _ :: _, _, _, h => h
theorem RpF.inl {ρ ρ' : List Addr} : ∀ (es : List W) (fs : List (Str × V)), inls es = true → RpF F ρ H es fs → RpF F ρ' H es fs
  | [], _, _, h => h
  | .kv (.str f) w :: es, fs, i, h => by
    obtain ⟨i1, i2⟩ := Bool.and_eq_true_iff.mp (show ((Mp.inl (.str f) && Mp.inl w) && Mp.inls es) = true from i)
    obtain ⟨_, i4⟩ := Bool.and_eq_true_iff.mp i1
    obtain ⟨v, r, e, h1, h2⟩ := h
    exact ⟨v, r, e, Rp.inl w v i4 h1, RpF.inl es r i2 h2⟩
  | .kv .non _ :: _, _, _, h => h
  | .kv (.bl _) _ :: _, _, _, h => h
  | .kv (.int _) _ :: _, _, _, h => h
  | .kv (.tup _) _ :: _, _, _, h => h
  | .kv (.lst _) _ :: _, _, _, h => h
  | .kv (.dic _) _ :: _, _, _, h => h
  | .kv (.kv _ _) _ :: _, _, _, h => h
  | .kv (.ins _ _) _ :: _, _, _, h => h
  | .kv (.ref _) _ :: _, _, _, h => h
  | .kv (.clo _ _) _ :: _, _, _, h => h
  | .non :: _, _, _, h => h
  | .bl _ :: _, _, _, h => h
  | .int _ :: _, _, _, h => h
  | .str _ :: _, _, _, h => h
  | .tup _ :: _, _, _, h => h
  | .lst _ :: _, _, _, h => h
  | .dic _ :: _, _, _, h => h
  | .ins _ _ :: _, _, _, h => h
  | .ref _ :: _, _, _, h => h
  | .clo _ _ :: _, _, _, h => h
end
theorem ExcR.inl {ρ ρ' : List Addr} {es : List W} {od : Option Addr} (i : inls es = true) (h : ExcR F ρ H es od) : ExcR F ρ' H es od := by
  unfold ExcR at h ⊢
  split at h
  · exact h
  · obtain ⟨d, fs, e1, e2, e3⟩ := h
    exact ⟨d, fs, e1, e2, RpF.inl _ _ i e3⟩
/-- what a call's answer promises -/
theorem call_sp {ρ : List Addr} {M : Store} {ws : List W} {vs : List V} {p : Bool} {n np : Nat} {E : XK} {Q : VK} (hl : vs.length = np) (rs : RelS F ρ H M) (rr : Rps F ρ H ws vs) (q : oK F (Rp F) E Q ρ H (callC C p n ws M)) : spC F C n np vs H Q E := by
  refine ⟨hl, ?_⟩
  cases p with
  | false => exact ⟨ρ, M, ws, rs, rr, q⟩
  | true =>
    have q : oK F (Rp F) E Q ρ H (pureC C n ws M) := q
    unfold pureC at q
    cases hi : inls ws with
    | false => rw [hi] at q; exact q.elim
    | true =>
      rw [hi] at q
      refine ⟨[], [], ws, ⟨rfl, List.nodup_nil, fun l o a h => by simp at h, rs.tab⟩, Rps.inl ws vs hi rr, ?_⟩
      cases e : C n ws [] with
      | fail => rw [e] at q; exact q.elim
      | ok w M2 =>
        rw [e] at q
        intro ρ' b H' x rs' rb
        dsimp only at q
        cases hw : inl w with
        | false => rw [hw] at q; exact q.elim
        | true =>
          rw [hw] at q
          obtain ⟨x1, rs1⟩ := x.nil rs
          exact q ρ b H' x1 rs1 (Rp.inl w b hw rb)
      | exc c es M2 =>
        rw [e] at q
        intro ρ' H' D od x rs' ec re
        dsimp only at q
        cases hw : inls es with
        | false => rw [hw] at q; exact q.elim
        | true =>
          rw [hw] at q
          obtain ⟨x1, rs1⟩ := x.nil rs
          exact q ρ H' D od x1 rs1 ec (re.inl hw)
theorem callC_ar {p : Bool} {n np : Nat} {ws : List W} {M : Store} (ar : ∀ ws M, ws.length ≠ np → C n ws M = .fail) (h : ws.length ≠ np) : callC C p n ws M = .fail := by
  cases p with
  | false => exact ar ws M h
  | true =>
    show pureC C n ws M = .fail
    unfold pureC
    split
    · rw [ar ws [] h]
    · rfl
/-- the callee runs -/
theorem run_c {pins : List (Addr × Obj)} {s : Shared} {τ : L2.St} {ρ : List Addr} {M : Store} {ws : List W} {vs : List V} {us : List Value} {p : Bool} {n np : Nat} {g : Addr} {Q : VK} (tk : Takes X Wx) (c : Callee F X C n g np) (hr : Room (n + 1) X.A) (I : Inv X pins τ H s) (r : Vals vs us)
    (rs : RelS F ρ H M) (rr : Rps F ρ H ws vs) (q : oK F (Rp F) (fun c d H' => Wx c d τ H') Q ρ H (callC C p n ws M)) : wpAny (model X.prog X.w) X.A (call (.ref g) us) (EP X pins τ Q) X.xe s := by
  obtain ⟨fd, ps, hl, F1, hb⟩ := c.ok
  refine run_fnS (E := WE Wx) F1 hr hb (passAt tk τ) I r (call_sp ?_ rs rr q)
  by_cases h : ws.length = np
  · rw [rr.length]; exact h
  · rw [callC_ar c.ar h] at q
    exact q.elim
variable {x : Str} {p pos apos : Pos} {e o : Expr} {es : List Expr} {fl : Sg → Store → Out (List W)} {fo : FE}
/-- f(e, ..), f a def -/
theorem e_call {pu : Bool} {n np : Nat} {g : Addr} (tk : Takes X Wx) (c : Callee F X C n g np) (hr : Room (n + 1) X.A) (hg : Gl X x) (hm : X.mg x = some (.ref g)) (ha : PA X (e :: es) (tL F Wx fl)) (hdb : (x == ("__debug__" : Str)) = false)
    (he : starEach (e :: es) X.env = (false, eval e X.env) :: starEach es X.env) (hpl : (backTo pos (starEach es X.env)).any (·.1) = false) :
    PE X (.Call (.Name x p) (e :: es) [] pos) (tE F Wx fun σ M => (fl σ M).bind fun ws M1 => callC C pu n ws M1) := by
  refine ⟨fun pins s τ H Q I ⟨ρ, σ, M, rs, rg, q⟩ => ?_⟩
  refine wpAny_Call_Name_kw (ld_glob I hg hm ?_ hdb)
  have hq := tL_bind (Q' := fun vs H1 => ∃ ρ1 ws M1, RelS F ρ1 H1 M1 ∧ Rps F ρ1 H1 ws vs ∧ oK F (Rp F) (fun c d H' => Wx c d τ H') Q ρ1 H1 (callC C pu n ws M1)) rs rg q fun ρ1 ws M1 vs H1 x1 rs1 rg1 r1 q1 => ⟨ρ1, ws, M1, rs1, r1, q1⟩
  refine PySem.W.callWith_K (h₀ := X.base) I.ok.mod.kin c.kp (thn (ha.run pos pins s τ H _ I hq) fun us s1 ⟨vs, H1, I1, r, ρ1, ws, M1, rs1, r1, q1⟩ => ⟨I1.kIn, ?_⟩) he hpl
  exact run_c tk c hr I1 r rs1 r1 q1
theorem e_call0 {pu : Bool} {n np : Nat} {g : Addr} (tk : Takes X Wx) (c : Callee F X C n g np) (hr : Room (n + 1) X.A) (hg : Gl X x) (hm : X.mg x = some (.ref g)) (hdb : (x == ("__debug__" : Str)) = false) :
    PE X (.Call (.Name x p) [] [] pos) (tE F Wx fun σ M => callC C pu n [] M) := by
  refine ⟨fun pins s τ H Q I ⟨ρ, σ, M, rs, rg, q⟩ => ?_⟩
  refine wpAny_Call_Name_kw (ld_glob I hg hm ?_ hdb)
  exact PySem.W.callWith_K0 I.kIn c.kp (run_c (us := []) (vs := []) (ws := []) tk c hr I .nil rs rfl q)
/-! ### methods -/
theorem meth_call {name : Str} {args : List Expr} {Q : Value → Shared → Prop} {A : Around} {E : Value → Shared → Prop} {s : Shared} {P : Program} {w : World} {env : Env} (hbase : attributeBase o name env (eval o env) = eval o env)
    (hfew : ((backTo pos (starEach args env)).all (fun x => !x.1) && (backToKw pos (keywordEach [] env)).all (fun x => x.1.isSome) && decide (args.length + ([] : List Keyword).length + (if ([] : List Keyword).isEmpty then 0 else 1) < 30)) = true) (hline : (apos.endLine == pos.line) = true)
    (h : wpAny (model P w) A (eval o env) (fun ov s₁ => wpAny (model P w) A (getMethod ov name (do return (← importBound o env).getD true)) (fun fx s₂ => wpAny (model P w) A (callWith pos fx.1 fx.2 (backTo pos (starEach args env)) []) Q E s₂) E s₁) E s) :
    wpAny (model P w) A (eval (.Call (.Attribute o name apos) args [] pos) env) Q E s := by
  have e1 : eval (.Call (.Attribute o name apos) args [] pos) env = (do
      let ov ← attributeBase o name env (eval o env)
      standAt apos.atName
      methodCall o name apos pos env ov (args.length + ([] : List Keyword).length) (backTo pos (starEach args env)) (backToKw pos (keywordEach [] env))) := rfl
  rw [e1, hbase]
  refine wpAny_bind (wpAny_mono h (fun ov s₁ h₁ => ?_) fun _ _ e => e)
  refine wpAny_bind (wpAny_standAt ?_)
  have hform : methodCallForm (args.length + ([] : List Keyword).length) (backTo pos (starEach args env)) (backToKw pos (keywordEach [] env)) = true := hfew
  have hpos : methodCallPos true o env apos pos = pure pos := by unfold methodCallPos; simp [hline]
  unfold methodCall
  rw [hform]
  refine wpAny_bind (wpAny_holding ?_)
  show wpAny _ _ (getMethod ov name _) _ _ _
  exact wpAny_mono h₁ (fun fx s₂ h₂ => wpAny_bind (wpAny_of_eq hpos h₂)) fun _ _ e => e
/-- an own class: where it stands, its defs by number -/
structure ClsM (F : Fx) (X : Cx) (C : Orc) (G : Gm) (c : Nat) (m : Str) (n np : Nat) : Prop where
  at_ : ∃ D, F.cA c = some D ∧ PySem.W.plainGet X.K D Str.empty = true ∧ ∃ g, Meth X.K D m g ∧ Callee F X C n g np
  look : ∃ i, G.cls c = some i ∧ lookS m i.meths = some n
theorem e_meth {pu : Bool} {c n np : Nat} {m : Str} (tk : Takes X Wx) (cm : ClsM F X C G c m n np) (hr : Room (n + 1) X.A) (ho : PE X o (tE F Wx fo)) (ha : PA X (e :: es) (tL F Wx fl)) (hbase : attributeBase o m X.env (eval o X.env) = eval o X.env)
    (hfew : ((backTo pos (starEach (e :: es) X.env)).all (fun x => !x.1) && (backToKw pos (keywordEach [] X.env)).all (fun x => x.1.isSome) && decide ((e :: es).length + ([] : List Keyword).length + (if ([] : List Keyword).isEmpty then 0 else 1) < 30)) = true) (hline : (apos.endLine == pos.line) = true)
    (he : starEach (e :: es) X.env = (false, eval e X.env) :: starEach es X.env) (hpl : (backTo pos (starEach es X.env)).any (·.1) = false) :
    PE X (.Call (.Attribute o m apos) (e :: es) [] pos) (tE F Wx fun σ M => (fo σ M).bind fun x M1 => match methOf G c M1 x m with | some f => (fl σ M1).bind fun ws M2 => callC C pu f (x :: ws) M2 | none => .fail) := by
  refine ⟨fun pins s τ H Q I ⟨ρ, σ, M, rs, rg, q⟩ => ?_⟩
  obtain ⟨D, hD, pg, g, hm, cal⟩ := cm.at_
  obtain ⟨i, eg, el⟩ := cm.look
  refine meth_call hbase hfew hline ?_
  refine thn (ho.run pins s τ H _ I (tE_bind (Q' := fun v H1 => ∃ ρ1 w M1, RelS F ρ1 H1 M1 ∧ RelG F ρ1 H1 σ τ ∧ Rp F ρ1 H1 w v ∧ oK F (Rp F) (fun c d H' => Wx c d τ H') Q ρ1 H1 (match methOf G c M1 w m with | some f => (fl σ M1).bind fun ws M2 => callC C pu f (w :: ws) M2 | none => .fail)) rs rg q
    fun ρ1 w M1 v H1 x1 rs1 rg1 r1 q1 => ⟨ρ1, w, M1, rs1, rg1, r1, q1⟩)) fun u s1 ⟨v, H1, I1, rv, ρ1, w, M1, rs1, rg1, r1, q1⟩ => ?_
  unfold methOf at q1
  cases ei : insOf M1 w with
  | none => rw [ei] at q1; exact q1.elim
  | some ce =>
    obtain ⟨c', es'⟩ := ce
    rw [ei] at q1
    dsimp only at q1
    cases hc : Nat.beq c c' with
    | false => rw [hc] at q1; exact q1.elim
    | true =>
      rw [hc] at q1
      cases Nat.eq_of_beq_eq_true hc
      dsimp only at q1
      cases ef : fldE m es' with
      | some _ => rw [ef] at q1; exact q1.elim
      | none =>
        rw [ef, eg] at q1
        dsimp only at q1
        rw [el] at q1
        dsimp only at q1
        obtain ⟨a, D', rfl, hD', ir⟩ := insR_of rs1 r1 ei
        rw [hD] at hD'
        cases hD'
        cases rv
        refine meth_at I1 ir ef pg hm ?_
        have hq := tL_bind (Q' := fun vs H2 => ∃ ρ2 ws M2, RelS F ρ2 H2 M2 ∧ Rps F ρ2 H2 (w :: ws) (.ref a :: vs) ∧ oK F (Rp F) (fun c d H' => Wx c d τ H') Q ρ2 H2 (callC C pu n (w :: ws) M2)) rs1 rg1 q1
          fun ρ2 ws M2 vs H2 x2 rs2 rg2 r2 q2 => ⟨ρ2, ws, M2, rs2, ⟨_, _, rfl, Rp.mono x2 _ _ r1, r2⟩, q2⟩
        refine PySem.W.callWith_K (first := [.ref a]) (h₀ := X.base) I.ok.mod.kin hm.kp (thn (ha.run pos pins s1 τ H1 _ I1 hq) fun us s2 ⟨vs, H2, I2, r, ρ2, ws, M2, rs2, r2, q2⟩ => ⟨I2.kIn, ?_⟩) he hpl
        exact run_c (us := .ref a :: us) (vs := .ref a :: vs) tk cal hr I2 (.cons rfl r) rs2 r2 q2
theorem e_meth0 {pu : Bool} {c n np : Nat} {m : Str} (tk : Takes X Wx) (cm : ClsM F X C G c m n np) (hr : Room (n + 1) X.A) (ho : PE X o (tE F Wx fo)) (hbase : attributeBase o m X.env (eval o X.env) = eval o X.env) (hline : (apos.endLine == pos.line) = true) :
    PE X (.Call (.Attribute o m apos) [] [] pos) (tE F Wx fun σ M => (fo σ M).bind fun x M1 => match methOf G c M1 x m with | some f => callC C pu f [x] M1 | none => .fail) := by
  refine ⟨fun pins s τ H Q I ⟨ρ, σ, M, rs, rg, q⟩ => ?_⟩
  obtain ⟨D, hD, pg, g, hm, cal⟩ := cm.at_
  obtain ⟨i, eg, el⟩ := cm.look
  refine meth_call hbase (by rfl) hline ?_
  refine thn (ho.run pins s τ H _ I (tE_bind (Q' := fun v H1 => ∃ ρ1 w M1, RelS F ρ1 H1 M1 ∧ Rp F ρ1 H1 w v ∧ oK F (Rp F) (fun c d H' => Wx c d τ H') Q ρ1 H1 (match methOf G c M1 w m with | some f => callC C pu f [w] M1 | none => .fail)) rs rg q
    fun ρ1 w M1 v H1 x1 rs1 rg1 r1 q1 => ⟨ρ1, w, M1, rs1, r1, q1⟩)) fun u s1 ⟨v, H1, I1, rv, ρ1, w, M1, rs1, r1, q1⟩ => ?_
  unfold methOf at q1
  cases ei : insOf M1 w with
  | none => rw [ei] at q1; exact q1.elim
  | some ce =>
    obtain ⟨c', es'⟩ := ce
    rw [ei] at q1
    dsimp only at q1
    cases hc : Nat.beq c c' with
    | false => rw [hc] at q1; exact q1.elim
    | true =>
      rw [hc] at q1
      cases Nat.eq_of_beq_eq_true hc
      dsimp only at q1
      cases ef : fldE m es' with
      | some _ => rw [ef] at q1; exact q1.elim
      | none =>
        rw [ef, eg] at q1
        dsimp only at q1
        rw [el] at q1
        dsimp only at q1
        obtain ⟨a, D', rfl, hD', ir⟩ := insR_of rs1 r1 ei
        rw [hD] at hD'
        cases hD'
        cases rv
        refine meth_at I1 ir ef pg hm ?_
        exact PySem.W.callWith_K0 (first := [.ref a]) I1.kIn hm.kp (run_c (us := [.ref a]) (vs := [.ref a]) tk cal hr I1 (.cons rfl .nil) rs1 (Rps.one r1) q1)

/-! ### attributes -/
structure ClsP (F : Fx) (X : Cx) (C : Orc) (c : Nat) (f : Str) (n : Nat) : Prop where
  at_ : ∃ D, F.cA c = some D ∧ PySem.W.plainGet X.K D Str.empty = true ∧ PySem.W.isClsIn X.K D = true ∧ ∃ p g, PropOf X.K D f p g ∧ Callee F X C n g 1
theorem e_attr {pu : Bool} {f : Str} (he : PE X e (tE F Wx fo)) (hb : attributeBase e f X.env (eval e X.env) = eval e X.env) (hC : ∀ c i, G.cls c = some i → ∃ D, ClsOk F X c D i.flds) (hP : ∀ c i n, G.cls c = some i → lookS f i.props = some n → ClsP F X C c f n ∧ Room (n + 2) X.A) :
    PE X (.Attribute e f pos) (tE F Wx fun σ M => (fo σ M).bind fun x M1 => Mp.getAttr G C pu x f M1) := by
  refine ⟨fun pins s τ H Q I ⟨ρ, σ, M, rs, rg, q⟩ => ?_⟩
  refine attr_of hb (thn (he.run pins s τ H (fun v H1 => ∃ ρ1 w M1, RelS F ρ1 H1 M1 ∧ Rp F ρ1 H1 w v ∧ oK F (Rp F) (fun c d H' => Wx c d τ H') Q ρ1 H1 (Mp.getAttr G C pu w f M1)) I
    (tE_bind rs rg q fun ρ1 w M1 v H1 x1 rs1 rg1 r1 q1 => ⟨ρ1, w, M1, rs1, r1, q1⟩)) fun v s1 ⟨x, H1, I1, rx, ρ1, w, M1, rs1, r1, q1⟩ => ?_)
  unfold Mp.getAttr at q1
  cases ei : insOf M1 w with
  | none => rw [ei] at q1; exact q1.elim
  | some ce =>
    obtain ⟨c, es⟩ := ce
    rw [ei] at q1
    dsimp only at q1
    cases eg : G.cls c with
    | none => rw [eg] at q1; exact q1.elim
    | some i =>
      rw [eg] at q1
      dsimp only at q1
      cases em : memS f i.flds with
      | true =>
        rw [em] at q1
        dsimp only at q1
        cases ef : fldE f es with
        | none => rw [ef] at q1; exact q1.elim
        | some y =>
          rw [ef] at q1
          obtain ⟨D, co⟩ := hC c i eg
          exact getF_ok I1 rs1 r1 rx ei ef co (memS_mem em) fun vv rv => oK_ok q1 rs1 rv
      | false =>
        rw [em] at q1
        dsimp only at q1
        cases ep : lookS f i.props with
        | none => rw [ep] at q1; exact q1.elim
        | some n =>
          rw [ep] at q1
          dsimp only at q1
          obtain ⟨⟨D, hD, pg, ic, p, g, hp, cal⟩, hr⟩ := hP c i n eg ep
          obtain ⟨a, D', rfl, hD', ir⟩ := insR_of rs1 r1 ei
          rw [hD] at hD'
          cases hD'
          cases rx
          obtain ⟨fd, ps, hl, F1, hbb⟩ := cal.ok
          refine prop_at (E := fun _ _ _ => False) I1 ir pg ic hp F1 hr hbb (passes_call (X := X.nox) takes0 fun _ _ _ _ z => z) ?_
          refine call_sp (p := pu) rfl rs1 (Rps.one r1) ?_
          cases e3 : callC C pu n [w] M1 with
          | ok w2 M2 => rw [e3] at q1; exact q1
          | exc _ _ _ => rw [e3] at q1; exact q1.elim
          | fail => rw [e3] at q1; exact q1.elim

/-! ### new instances -/
structure ClsN (F : Fx) (X : Cx) (C : Orc) (G : Gm) (c : Nat) (n np : Nat) (D : Addr) : Prop where
  at_ : F.cA c = some D
  made : ∃ g, Mk X.K D g ∧ Callee F X C n g (np + 1)
  ini : ∃ i, G.cls c = some i ∧ i.init = n
theorem run_new {pins : List (Addr × Obj)} {s : Shared} {τ : L2.St} {ρ : List Addr} {M : Store} {ws : List W} {vs : List V} {us : List Value} {c n np : Nat} {D : Addr} {Q : VK} (tk : Takes X Wx) (cn : ClsN F X C G c n np D) (hr : Room (n + 2) X.A) (I : Inv X pins τ H s) (r : Vals vs us)
    (rs : RelS F ρ H M) (rr : Rps F ρ H ws vs) (q : oK F (Rp F) (fun c d H' => Wx c d τ H') Q ρ H (newW G C c ws M)) : wpAny (model X.prog X.w) X.A (call (.ref D) us) (EP X pins τ Q) X.xe s := by
  obtain ⟨f, Mk1, cal⟩ := cn.made
  obtain ⟨i, eg, ei⟩ := cn.ini
  obtain ⟨fd, ps, hl, F1, hb⟩ := cal.ok
  unfold newW at q
  rw [eg] at q
  dsimp only at q
  rw [ei] at q
  have hlw : ws.length = np := by
    by_cases h : ws.length = np
    · exact h
    · rw [cal.ar (W.ref M.length :: ws) (M ++ [MObj.ins c []]) (by simp; exact h)] at q
      exact q.elim
  have n1 := I.hok.fresh (a := s.heap.objs.size + 1) (Nat.le_succ s.heap.objs.size)
  have n2 := I.hok.fresh (Nat.le_refl s.heap.objs.size)
  have I2 := Inv.made (C := D) I
  generalize hxx : s.heap.objs.size + 1 = xx at n1 I2
  generalize hdd : s.heap.objs.size = dd at n2 I2 hxx
  have ne : dd ≠ xx := by omega
  have n1' : (upd H dd (.own xx)) xx = none := by rw [upd_ne (fun z => ne z.symm)]; exact n1
  have xa : Ext ρ H ρ (upd H dd (.own xx)) := Ext.upd0 n2
  have rs1 : RelS F ρ (upd H dd (.own xx)) M := rs.upd0 n2
  have xb := Ext.upd_fresh (ρ := ρ) (o := .ins D dd []) n1' [xx]
  have rs2 : RelS F (ρ ++ [xx]) (upd (upd H dd (.own xx)) xx (.ins D dd [])) (M ++ [.ins c []]) := rs1.push n1' ⟨D, dd, cn.at_, by
    cases q : F.sl c with
    | none => exact ⟨[], upd_same, rfl⟩
    | some ns => exact ⟨[], .inl ⟨upd_same, rfl⟩, fun i x z => by simp at z, ne⟩⟩
  have xab := xa.trans xb
  have hself : Rp F (ρ ++ [xx]) (upd (upd H dd (.own xx)) xx (.ins D dd [])) (.ref M.length) (.ref xx) := ⟨xx, by rw [← rs.len]; simp, rfl⟩
  have hsp : spC F C n (np + 1) (.ref xx :: vs) (upd (upd H dd (.own xx)) xx (.ins D dd [])) (fun v H2 => v = .non ∧ Q (.ref xx) H2) (WE Wx τ) := by
    refine ⟨by simp [rr.length, hlw], ρ ++ [xx], M ++ [.ins c []], .ref M.length :: ws, rs2, ⟨_, _, rfl, hself, Rps.mono xab _ _ rr⟩, ?_⟩
    cases e : C n (W.ref M.length :: ws) (M ++ [MObj.ins c []]) with
    | fail => rw [e] at q; exact q.elim
    | exc d es M' =>
      rw [e] at q
      exact fun ρ' H' D od x s e r => q ρ' H' D od (xab.trans x) s e r
    | ok w M' =>
      rw [e] at q
      cases w with
      | non => exact fun ρ' b H' x s r => ⟨r, q ρ' (.ref xx) H' (xab.trans x) s ⟨xx, x.toExtB.get (by rw [← rs.len]; simp), rfl⟩⟩
      | _ => exact (show False from q).elim
  have r2 : Vals (V.ref xx :: vs) (Value.ref xx :: us) := .cons rfl r
  have hll : (Value.ref xx :: us).length = ps.length := by
    rw [← r2.length, hl]
    simp [rr.length, hlw]
  have b := hb { s with heap := (s.heap.push PySem.W.emptyDict).push (PySem.W.instObj D s.heap.objs.size) } (Value.ref xx :: us) (by have := I2.kIn; rw [← hdd] at this; exact this) (by rw [List.append_nil]; exact hll)
  rw [List.append_nil] at b
  subst hdd
  subst hxx
  refine wpAny_call (make_map (f := f) I.kIn Mk1.makes Mk1.init (beq_iff_eq.mp Mk1.fn) (codeAny_mono (F1.run _ X.stack _ _ ⟨Value.ref (s.heap.objs.size + 1) :: us, []⟩ (Value.ref (s.heap.objs.size + 1) :: us) _ _ (WE Wx τ) (hr.make D us [])
    (I2.env0.make D us []) b r2 hsp) fun r s' hq' => ?_))
  cases r with
  | error e => exact passAt tk τ pins _ _ e s' I2 hq'
  | ok fl =>
    cases fl with
    | ret u =>
      obtain ⟨v, H', I3, rv, ev, q3⟩ := I2.after hq'
      subst ev
      exact ⟨rv, ⟨V.ref (s.heap.objs.size + 1), H', I3, rfl, q3⟩⟩
    | next => exact False.elim hq'
    | brk => exact False.elim hq'
    | cont => exact False.elim hq'
theorem e_make {c n np : Nat} {D : Addr} (tk : Takes X Wx) (cn : ClsN F X C G c n np D) (hr : Room (n + 2) X.A) (hg : Gl X x) (hm : X.mg x = some (.ref D)) (ha : PA X (e :: es) (tL F Wx fl)) (hdb : (x == ("__debug__" : Str)) = false)
    (he : starEach (e :: es) X.env = (false, eval e X.env) :: starEach es X.env) (hpl : (backTo pos (starEach es X.env)).any (·.1) = false) :
    PE X (.Call (.Name x p) (e :: es) [] pos) (tE F Wx fun σ M => (fl σ M).bind fun ws M1 => newW G C c ws M1) := by
  refine ⟨fun pins s τ H Q I ⟨ρ, σ, M, rs, rg, q⟩ => ?_⟩
  refine wpAny_Call_Name_kw (ld_glob I hg hm ?_ hdb)
  have hq := tL_bind (Q' := fun vs H1 => ∃ ρ1 ws M1, RelS F ρ1 H1 M1 ∧ Rps F ρ1 H1 ws vs ∧ oK F (Rp F) (fun c d H' => Wx c d τ H') Q ρ1 H1 (newW G C c ws M1)) rs rg q fun ρ1 ws M1 vs H1 x1 rs1 rg1 r1 q1 => ⟨ρ1, ws, M1, rs1, r1, q1⟩
  obtain ⟨_, mk, _⟩ := cn.made
  refine PySem.W.callWith_K (h₀ := X.base) I.ok.mod.kin mk.kp (thn (ha.run pos pins s τ H _ I hq) fun us s1 ⟨vs, H1, I1, r, ρ1, ws, M1, rs1, r1, q1⟩ => ⟨I1.kIn, ?_⟩) he hpl
  exact run_new tk cn hr I1 r rs1 r1 q1
theorem e_make0 {c n np : Nat} {D : Addr} (tk : Takes X Wx) (cn : ClsN F X C G c n np D) (hr : Room (n + 2) X.A) (hg : Gl X x) (hm : X.mg x = some (.ref D)) (hdb : (x == ("__debug__" : Str)) = false) :
    PE X (.Call (.Name x p) [] [] pos) (tE F Wx fun σ M => newW G C c [] M) := by
  refine ⟨fun pins s τ H Q I ⟨ρ, σ, M, rs, rg, q⟩ => ?_⟩
  refine wpAny_Call_Name_kw (ld_glob I hg hm ?_ hdb)
  obtain ⟨_, mk, _⟩ := cn.made
  exact PySem.W.callWith_K0 I.kIn mk.kp (run_new (us := []) (vs := []) (ws := []) tk cn hr I .nil rs rfl q)
end
end Mp
set_option Elab.async false
set_option linter.all false
set_option maxRecDepth 100000
set_option maxHeartbeats 2000000
namespace Mp
open PySem PySem.Spec PyProof.Rows L2 SeqAt
inductive LkS (P : Hp → Prop) : Hp → Prop where
  | done {H : Hp} (h : P H) : LkS P H
  | lock {H : Hp} {d : Addr} {o : HO} (h : H d = some o) (m : Mut (some o)) (k : ∀ od, LkS P (upd H d (.frz od o))) : LkS P H
section
variable {F : Fx} {Wx : WX} {X : Cx}
theorem LkS.inv {P : Hp → Prop} {pins : List (Addr × Obj)} {τ : L2.St} {s : Shared} {H : Hp} (h : LkS P H) : Inv X pins τ H s → ∃ H', Inv X pins τ H' s ∧ P H' := by
  induction h with
  | done h => exact fun I => ⟨_, I, h⟩
  | lock h m k ih =>
    intro I
    obtain ⟨od, I1⟩ := I.lock h m
    exact ih od I1
theorem PE.lockS {e : Expr} {t : TE} (h : PE X e t) : PE X e (fun τ H Q => t τ H fun v H1 => LkS (Q v) H1) :=
  ⟨fun pins s τ H Q I q => thn (h.run pins s τ H _ I q) fun u s1 ⟨v, H1, I1, r, z⟩ => by
    obtain ⟨H2, I2, z2⟩ := z.inv I1
    exact ⟨v, H2, I2, r, z2⟩⟩
theorem LkS.bind {P P' : Hp → Prop} {H : Hp} (h : LkS P H) (k : ∀ H', P H' → LkS P' H') : LkS P' H := by
  induction h with
  | done h => exact k _ h
  | lock h m _ ih => exact .lock h m ih
/-- another description of an object of the store -/
theorem RelS.reput {ρ : List Addr} {H : Hp} {M : Store} {l : Nat} {a : Addr} {ob : MObj} (r : RelS F ρ H M) (hl : ρ[l]? = some a) (q : ObR F ρ H a ob) : RelS F ρ H (M.set l ob) where
  len := by simp [r.len]
  nd := r.nd
  tab := r.tab
  ob := fun k o' b h1 h2 => by
    by_cases e : l = k
    · subst e
      have hM : l < M.length := by rw [← r.len]; exact (List.getElem?_eq_some_iff.mp hl).1
      rw [List.getElem?_set_self hM] at h1
      cases h1
      rw [hl] at h2; cases h2
      exact q
    · rw [List.getElem?_set_ne e] at h1
      exact r.ob k o' b h1 h2
/-- entries: the same keys -/
def sameK : List W → List W → Prop
  | [], [] => True
  | .kv k _ :: r, .kv k' _ :: r' => k = k' ∧ sameK r r'
  | _, _ => False
theorem sameK_mem : ∀ {es us : List W} {k v : W}, sameK es us → .kv k v ∈ us → ∃ v', W.kv k v' ∈ es
  | [], us, k, v, h, m => by
    cases us with
    | nil => cases m
    | cons u r => exact (show False from h).elim
  | e :: es, us, k, v, h, m => by
    cases us with
    | nil => cases m
    | cons u r =>
      cases e with
      | kv k1 v1 =>
        cases u with
        | kv k2 v2 =>
          obtain ⟨rfl, h2⟩ := h
          rcases List.mem_cons.mp m with z | z
          · cases z; exact ⟨v1, List.mem_cons_self⟩
          · obtain ⟨v', z'⟩ := sameK_mem h2 z
            exact ⟨v', List.mem_cons_of_mem _ z'⟩
        | _ => exact (show False from h).elim
      | _ => exact (show False from h).elim
theorem sameK_dist : ∀ {es us : List W}, sameK es us → KDist es → KDist us ∧ us.length = es.length
  | [], us, h, d => by
    cases us with
    | nil => exact ⟨True.intro, rfl⟩
    | cons u r => exact (show False from h).elim
  | e :: es, us, h, d => by
    cases us with
    | nil => exact (show False from by cases e <;> exact h).elim
    | cons u r =>
      cases e with
      | kv k1 v1 =>
        cases u with
        | kv k2 v2 =>
          obtain ⟨rfl, h2⟩ := h
          obtain ⟨d1, d2, d3⟩ := d
          obtain ⟨h3, h4⟩ := sameK_dist h2 d3
          refine ⟨⟨d1, fun k' v' m => ?_, h3⟩, by simp [h4]⟩
          obtain ⟨v2, z⟩ := sameK_mem h2 m
          exact d2 k' v2 z
        | _ => exact (show False from h).elim
      | _ => exact (show False from h).elim

/-- what one step of the fuel shows -/
structure FrzOk (F : Fx) (n : Nat) : Prop where
  w : ∀ (w : W) (M : Store) (w' : W) (M' : Store) (ρ : List Addr) (H : Hp) (v : V), frzW n w M = some (w', M') → RelS F ρ H M → Rp F ρ H w v → LkS (fun H' => Ext ρ H ρ H' ∧ RelS F ρ H' M' ∧ Rp F ρ H' w' v) H
  s : ∀ (ws : List W) (M : Store) (ws' : List W) (M' : Store) (ρ : List Addr) (H : Hp) (vs : List V), frzs n ws M = some (ws', M') → RelS F ρ H M → Rps F ρ H ws vs → LkS (fun H' => Ext ρ H ρ H' ∧ RelS F ρ H' M' ∧ Rps F ρ H' ws' vs) H
  e : ∀ (ws : List W) (M : Store) (ws' : List W) (M' : Store) (ρ : List Addr) (H : Hp) (ds : List DictEntry), frzs n ws M = some (ws', M') → RelS F ρ H M → RpE F ρ H ws ds → LkS (fun H' => Ext ρ H ρ H' ∧ RelS F ρ H' M' ∧ RpE F ρ H' ws' ds ∧ sameK ws ws') H
  sl : ∀ (ns : List Str) (ws : List W) (M : Store) (ws' : List W) (M' : Store) (ρ : List Addr) (H : Hp) (vs : List (Option V)), frzs n ws M = some (ws', M') → RelS F ρ H M → RpS F ρ H ns ws vs → LkS (fun H' => Ext ρ H ρ H' ∧ RelS F ρ H' M' ∧ RpS F ρ H' ns ws' vs) H
  f : ∀ (ws : List W) (M : Store) (ws' : List W) (M' : Store) (ρ : List Addr) (H : Hp) (fs : List (Str × V)), frzs n ws M = some (ws', M') → RelS F ρ H M → RpF F ρ H ws fs → LkS (fun H' => Ext ρ H ρ H' ∧ RelS F ρ H' M' ∧ RpF F ρ H' ws' fs) H
theorem frzs_cons {n : Nat} {w : W} {r : List W} {M : Store} {ws' : List W} {M' : Store} (h : frzs (n + 1) (w :: r) M = some (ws', M')) : ∃ u M1 us, frzW n w M = some (u, M1) ∧ frzs n r M1 = some (us, M') ∧ ws' = u :: us := by
  unfold frzs at h
  split at h
  · rename_i u M1 e
    split at h
    · rename_i us M2 e2
      cases h
      exact ⟨u, M1, us, e, e2, rfl⟩
    · cases h
  · cases h
theorem frzs_nil {n : Nat} {M : Store} {ws' : List W} {M' : Store} (h : frzs (n + 1) [] M = some (ws', M')) : ws' = [] ∧ M' = M := by
  unfold frzs at h
  cases h
  exact ⟨rfl, rfl⟩
theorem frzW_kv {n : Nat} {k w u : W} {M M' : Store} (h : frzW n (.kv k w) M = some (u, M')) : ∃ m u', n = m + 1 ∧ frzW m w M = some (u', M') ∧ u = .kv k u' := by
  cases n with
  | zero => cases h
  | succ m =>
    unfold frzW at h
    split at h
    · rename_i u' M1 e
      cases h
      exact ⟨m, u', rfl, e, rfl⟩
    · cases h
theorem frz_all : ∀ n, (∀ m, m < n → FrzOk F m) → FrzOk F n := by
  intro n ih
  cases n with
  | zero => exact ⟨fun _ _ _ _ _ _ _ h => (by cases h), fun _ _ _ _ _ _ _ h => (by cases h), fun _ _ _ _ _ _ _ h => (by cases h), fun _ _ _ _ _ _ _ _ h => (by cases h), fun _ _ _ _ _ _ _ h => (by cases h)⟩
  | succ n =>
    have J := ih n (Nat.lt_succ_self n)
    refine ⟨?_, ?_, ?_, ?_, ?_⟩
    · intro w M w' M' ρ H v h rs rw'
      have same : ∀ {u : W}, some (u, M) = some (w', M') → w = u → LkS (fun H' => Ext ρ H ρ H' ∧ RelS F ρ H' M' ∧ Rp F ρ H' w' v) H := fun {u} e z => by
        cases e; subst z; exact .done ⟨Ext.refl, rs, rw'⟩
      cases w with
      | non => exact same (by unfold frzW at h; exact h) rfl
      | bl _ => exact same (by unfold frzW at h; exact h) rfl
      | int _ => exact same (by unfold frzW at h; exact h) rfl
      | str _ => exact same (by unfold frzW at h; exact h) rfl
      | clo _ _ => exact (show False from rw').elim
      | kv _ _ => exact (show False from rw').elim
      | tup ws =>
        unfold frzW at h
        split at h
        · rename_i us M1 e
          cases h
          obtain ⟨a, xs, rfl, h1, h2⟩ := rw'
          exact (J.s ws M us M' ρ H xs e rs h2).bind fun H' ⟨x, s', r⟩ => .done ⟨x, s', a, xs, rfl, x.toExtB.sqT h1, r⟩
        · cases h
      | lst ws =>
        unfold frzW at h
        split at h
        · rename_i us M1 e
          cases h
          obtain ⟨a, xs, rfl, h1, h2⟩ := rw'
          exact (J.s ws M us M' ρ H xs e rs h2).bind fun H' ⟨x, s', r⟩ => .done ⟨x, s', a, xs, rfl, x.toExtB.fzL h1, r⟩
        · cases h
      | dic es =>
        unfold frzW at h
        split at h
        · rename_i us M1 e
          cases h
          obtain ⟨a, ds, rfl, h0, h1, hz, kd, h2⟩ := rw'
          refine (J.e es M us M' ρ H ds e rs h2).bind fun H' ⟨x, s', r, sk⟩ => ?_
          obtain ⟨kd', hl⟩ := sameK_dist sk kd
          exact .done ⟨x, s', a, ds, rfl, h0, x.toExtB.fzD h1, by rw [hl]; exact hz, kd', r⟩
        · cases h
      | ins c es =>
        unfold frzW at h
        split at h
        · rename_i us M1 e
          cases h
          obtain ⟨a, C, dx, o, rfl, h1, h2⟩ := rw'
          rcases h2 with ⟨vs, ns, g1, g2, g3, g4⟩ | ⟨fs, g1, g2, g3⟩
          · exact (J.sl ns es M us M' ρ H vs e rs g4).bind fun H' ⟨x, s', r⟩ => .done ⟨x, s', a, C, dx, o, rfl, h1, .inl ⟨vs, ns, g1, x.frz _ _ _ g2, x.xd _ _ g3, r⟩⟩
          · exact (J.f es M us M' ρ H fs e rs g3).bind fun H' ⟨x, s', r⟩ => .done ⟨x, s', a, C, dx, o, rfl, h1, .inr ⟨fs, g1, x.frz _ _ _ g2, r⟩⟩
        · cases h
      | ref l =>
        obtain ⟨a, hl, rfl⟩ := rw'
        have hm : a ∈ ρ := List.mem_of_getElem? hl
        unfold frzW at h
        split at h
        · rename_i ws em
          split at h
          · rename_i us M1 e
            cases h
            obtain ⟨xs, h1, h2⟩ := rs.ob l _ a em hl
            refine .lock h1 True.intro fun od => ?_
            have x1 := Ext.write (u := .frz od (.lst xs)) hm h1 True.intro (fun q z => nomatch z)
            have s1 := rs.put (u := .frz od (.lst xs)) (ob := .frz (.lst ws)) hl h1 True.intro (fun q z => nomatch z) ⟨⟨a, xs, rfl, ⟨od, upd_same⟩, Rps.mono x1 _ _ h2⟩, od, _, upd_same⟩
            refine (J.s ws _ us M1 ρ _ xs e s1 (Rps.mono x1 _ _ h2)).bind fun H' ⟨x, s', r⟩ => ?_
            have rr : Rp F ρ H' (.lst us) (.ref a) := ⟨a, xs, rfl, ⟨od, x.frz _ _ _ upd_same⟩, r⟩
            exact .done ⟨x1.trans x, s'.reput hl ⟨rr, od, _, x.frz _ _ _ upd_same⟩, rr⟩
          · cases h
        · rename_i es em
          split at h
          · rename_i us M1 e
            cases h
            obtain ⟨ds, h0, h1, hz, kd, h2⟩ := rs.ob l _ a em hl
            refine .lock h1 True.intro fun od => ?_
            have x1 := Ext.write (u := .frz od (dicO a ds)) hm h1 True.intro (fun q => code_dic)
            have s1 := rs.put (u := .frz od (dicO a ds)) (ob := .frz (.dic es)) hl h1 True.intro (fun q => code_dic) ⟨⟨a, ds, rfl, h0, .inl ⟨od, upd_same⟩, hz, kd, RpE.mono x1 _ _ h2⟩, od, _, upd_same⟩
            refine (J.e es _ us M1 ρ _ ds e s1 (RpE.mono x1 _ _ h2)).bind fun H' ⟨x, s', r, sk⟩ => ?_
            obtain ⟨kd', hln⟩ := sameK_dist sk kd
            have rr : Rp F ρ H' (.dic us) (.ref a) := ⟨a, ds, rfl, h0, .inl ⟨od, x.frz _ _ _ upd_same⟩, by rw [hln]; exact hz, kd', r⟩
            exact .done ⟨x1.trans x, s'.reput hl ⟨rr, od, _, x.frz _ _ _ upd_same⟩, rr⟩
          · cases h
        · rename_i c e0 es em
          split at h
          · rename_i us M1 e
            cases h
            obtain ⟨C, dx, h0, ob⟩ := rs.ob l _ a em hl
            cases q : F.sl c with
            | none =>
              rw [q] at ob
              obtain ⟨fs, h1, h2⟩ := ob
              refine .lock h1 True.intro fun od => ?_
              have x1 := Ext.write (u := .frz od (.ins C dx fs)) hm h1 True.intro (fun q z => nomatch z)
              have s1 := rs.put (u := .frz od (.ins C dx fs)) (ob := .frz (.ins c (e0 :: es))) hl h1 True.intro (fun q z => nomatch z) ⟨⟨a, C, dx, od, rfl, h0, .inr ⟨fs, q, upd_same, RpF.monoB x1.toExtB _ _ h2⟩⟩, od, _, upd_same⟩
              refine (J.f (e0 :: es) _ us M1 ρ _ fs e s1 (RpF.monoB x1.toExtB _ _ h2)).bind fun H' ⟨x, s', r⟩ => ?_
              have rr : Rp F ρ H' (.ins c us) (.ref a) := ⟨a, C, dx, od, rfl, h0, .inr ⟨fs, q, x.frz _ _ _ upd_same, r⟩⟩
              exact .done ⟨x1.trans x, s'.reput hl ⟨rr, od, _, x.frz _ _ _ upd_same⟩, rr⟩
            | some ns =>
              rw [q] at ob
              obtain ⟨vs, h1, h2, hne⟩ := ob
              rcases h1 with ⟨h1, rfl⟩ | ⟨h1, h3⟩
              · exfalso
                cases e0 with
                | kv k u =>
                  cases k with
                  | str g =>
                    obtain ⟨_, _, _, z, _⟩ := h2
                    simp at z
                  | _ => exact (show False from h2)
                | _ => exact (show False from h2)
              · refine .lock h1 True.intro fun od => ?_
                have x1 := Ext.write (u := .frz od (SlX.SlO a C dx vs)) hm h1 True.intro (fun q => slO_ne)
                have hx : (upd H a (.frz od (SlX.SlO a C dx vs))) dx = some (.xd []) := by rw [upd_ne hne]; exact h3
                have s1 := rs.put (u := .frz od (SlX.SlO a C dx vs)) (ob := .frz (.ins c (e0 :: es))) hl h1 True.intro (fun q => slO_ne) ⟨⟨a, C, dx, od, rfl, h0, .inl ⟨vs, ns, q, upd_same, hx, RpS.mono x1 _ _ _ h2⟩⟩, od, _, upd_same⟩
                refine (J.sl ns (e0 :: es) _ us M1 ρ _ vs e s1 (RpS.mono x1 _ _ _ h2)).bind fun H' ⟨x, s', r⟩ => ?_
                have rr : Rp F ρ H' (.ins c us) (.ref a) := ⟨a, C, dx, od, rfl, h0, .inl ⟨vs, ns, q, x.frz _ _ _ upd_same, x.xd _ _ hx, r⟩⟩
                exact .done ⟨x1.trans x, s'.reput hl ⟨rr, od, _, x.frz _ _ _ upd_same⟩, rr⟩
          · cases h
        · cases h
        · rename_i u em
          exact J.w u M w' M' ρ H (.ref a) h rs (rs.ob l _ a em hl).1
        · cases h
    · intro ws M ws' M' ρ H vs h rs rw'
      cases ws with
      | nil =>
        obtain ⟨rfl, rfl⟩ := frzs_nil h
        exact .done ⟨Ext.refl, rs, rw'⟩
      | cons w r =>
        obtain ⟨u, M1, us, e1, e2, rfl⟩ := frzs_cons h
        obtain ⟨v, t, rfl, h1, h2⟩ := rw'
        refine (J.w w M u M1 ρ H v e1 rs h1).bind fun H1 ⟨x1, s1, r1⟩ => ?_
        exact (J.s r M1 us M' ρ H1 t e2 s1 (Rps.mono x1 _ _ h2)).bind fun H2 ⟨x2, s2, r2⟩ => .done ⟨x1.trans x2, s2, v, t, rfl, Rp.mono x2 _ _ r1, r2⟩
    · intro ws M ws' M' ρ H ds h rs rw'
      cases ws with
      | nil =>
        obtain ⟨rfl, rfl⟩ := frzs_nil h
        exact .done ⟨Ext.refl, rs, rw', True.intro⟩
      | cons w r =>
        obtain ⟨u, M1, us, e1, e2, rfl⟩ := frzs_cons h
        obtain ⟨k, v, rfl⟩ := RpE.none_ rw'
        obtain ⟨d, t, rfl, hh, h1, ⟨y, hy, h2⟩, h3⟩ := rw'
        obtain ⟨m, u', rfl, e3, rfl⟩ := frzW_kv e1
        refine ((ih m (by omega)).w v M u' M1 ρ H y e3 rs h2).bind fun H1 ⟨x1, s1, r1⟩ => ?_
        refine (J.e r M1 us M' ρ H1 t e2 s1 (RpE.mono x1 _ _ h3)).bind fun H2 ⟨x2, s2, r2, sk⟩ => .done ⟨x1.trans x2, s2, ⟨d, t, rfl, hh, ?_, ⟨y, hy, Rp.mono x2 _ _ r1⟩, r2⟩, rfl, sk⟩
        obtain ⟨z, hz, hz2⟩ := h1
        exact ⟨z, hz, Rp.mono (x1.trans x2) _ _ hz2⟩
    · intro ns ws M ws' M' ρ H vs h rs rw'
      cases ws with
      | nil =>
        obtain ⟨rfl, rfl⟩ := frzs_nil h
        exact .done ⟨Ext.refl, rs, rw'⟩
      | cons w r =>
        obtain ⟨u, M1, us, e1, e2, rfl⟩ := frzs_cons h
        cases w with
        | kv k v =>
          cases k with
          | str g =>
            obtain ⟨i0, y, p1, p2, h1, h2⟩ := rw'
            obtain ⟨m, u', rfl, e3, rfl⟩ := frzW_kv e1
            refine ((ih m (by omega)).w v M u' M1 ρ H y e3 rs h1).bind fun H1 ⟨x1, s1, r1⟩ => ?_
            exact (J.sl ns r M1 us M' ρ H1 (vs.set i0 none) e2 s1 (RpS.mono x1 _ _ _ h2)).bind fun H2 ⟨x2, s2, r2⟩ => .done ⟨x1.trans x2, s2, i0, y, p1, p2, Rp.mono x2 _ _ r1, r2⟩
          | _ => exact (show False from rw').elim
        | _ => exact (show False from rw').elim
    · intro ws M ws' M' ρ H fs h rs rw'
      cases ws with
      | nil =>
        obtain ⟨rfl, rfl⟩ := frzs_nil h
        exact .done ⟨Ext.refl, rs, rw'⟩
      | cons w r =>
        obtain ⟨u, M1, us, e1, e2, rfl⟩ := frzs_cons h
        cases w with
        | kv k v =>
          cases k with
          | str g =>
            obtain ⟨y, t, rfl, h1, h2⟩ := rw'
            obtain ⟨m, u', rfl, e3, rfl⟩ := frzW_kv e1
            refine ((ih m (by omega)).w v M u' M1 ρ H y e3 rs h1).bind fun H1 ⟨x1, s1, r1⟩ => ?_
            exact (J.f r M1 us M' ρ H1 t e2 s1 (RpF.monoB x1.toExtB _ _ h2)).bind fun H2 ⟨x2, s2, r2⟩ => .done ⟨x1.trans x2, s2, y, t, rfl, Rp.mono x2 _ _ r1, r2⟩
          | _ => exact (show False from rw').elim
        | _ => exact (show False from rw').elim
theorem frz_ok (n : Nat) : FrzOk F n := by
  induction n using Nat.strongRecOn with
  | ind n ih => exact frz_all n ih
theorem e_frz {e : Expr} {f : FE} (he : PE X e (tE F Wx f)) : PE X e (tE F Wx fun σ M => (f σ M).bind freezeW) := by
  refine PE.weak (PE.lockS he) fun τ H Q ⟨ρ, σ, M, rs, rg, q⟩ => ?_
  refine tE_bind rs rg q fun ρ1 w M1 v H1 x1 rs1 rg1 r1 q1 => ?_
  unfold freezeW at q1
  split at q1
  · exact .done (oK_ok q1 rs1 r1)
  · split at q1
    · rename_i u M2 e
      exact ((frz_ok 100000).w w M1 u M2 ρ1 H1 v e rs1 r1).bind fun H2 ⟨x2, s2, r2⟩ => .done (q1 ρ1 v H2 x2 s2 r2)
    · exact q1.elim
end
end Mp
set_option Elab.async false
set_option linter.all false
set_option maxRecDepth 100000
set_option maxHeartbeats 2000000
namespace Mp
open PySem PySem.Spec PyProof.Rows L2 SeqAt

section
variable {P : Program} {w : World} {A : Around} {E : Value → Shared → Prop} {s : Shared} {it d : Addr} {i n ep : Nat} {ds : List DictEntry}
theorem begins_keys (hd : (d == sysModules) = false) : Begins (.ref d) { cls := .type "dict_keyiterator", data := .fields #[.ref d, .int 0 0, .int ds.length 0, .int ep 0] } fun h => h.get? d = some (dObj ds ep) where
  iter := fun prog w A E s Q e q => iter_keys hd e ⟨rfl, rfl, rfl⟩ rfl (by simpa using q)
  keeps := fun h h' x k => k _ _ x
  free := rfl
theorem keyNext_item {en : DictEntry} {Q : Value → Shared → Prop} (hit : s.heap.IsKeyIter it d i ds.length ep) (hod : s.heap.get? d = some (dObj ds ep)) (hx : ds[i]? = some en)
    (hQ : ∀ h', h'.IsKeyIter it d (i + 1) ds.length ep → Heap.SameBut it s.heap h' → Q en.key { s with heap := h' }) : wpAny (model P w) A (Builtin.SmallTypes.nextOf (.ref it)) Q E s := by
  obtain ⟨o, ho, hc, hd⟩ := id hit
  have hdd : (dObj ds ep).data = .dict ds.toArray ep := rfl
  have hx' : ds.toArray[i]? = some en := by simpa using hx
  obtain ⟨hlt', hen⟩ := Array.getElem?_eq_some_iff.mp hx'
  unfold Builtin.SmallTypes.nextOf
  refine wpAny_bind (wpAny_callSpecial?_slot (name := Str.ofString "__next__") hit.typeIs F.slot_dict_keyiterator_next (wpAny_call_entry F.slot_dict_keyiterator_next hit.typeIs F.entry_dict_keyiterator_next ?_ (F.args_dict_keyiterator_next_1 _)))
  refine wpAny_bind (wpAny_pure (wpAny_bind (wpAny_bind ?_)))
  first | refine wpAny_bind (wpAny_typeNameOfWhole_keyiter hit.typeIs (wpAny_pure (wpAny_bind (wpAny_fieldsOf ho hd ?_)))) | refine wpAny_bind (wpAny_typeNameOf_keyiter hit.typeIs (wpAny_pure (wpAny_bind (wpAny_fieldsOf ho hd ?_))))
  simp only [show Builtin.Dict_items.ownsTuple "dict_keyiterator" = false by decide, Bool.false_eq_true, if_false]
  show wpAny _ _ (if (Value.ref d == Value.none) = true then _ else _) _ _ s
  rw [if_neg (show ¬ ((Value.ref d == Value.none) = true) from Bool.false_ne_true)]
  refine wpAny_bind (wpAny_pure (wpAny_bind (wpAny_dictEntries hod hdd ?_)))
  rw [if_neg (by simp)]
  refine wpAny_bind (wpAny_pure (wpAny_bind (wpAny_dictEpoch hod hdd ?_)))
  rw [if_neg (by simp)]
  refine wpAny_pure ?_
  simp only [show ¬ ((i : Int) < 0) from by omega, if_false, Int.toNat_natCast, Array.getElem?_eq_getElem hlt']
  refine wpAny_bind ?_
  first | refine wpAny_bind (wpAny_typeNameOfWhole_keyiter hit.typeIs (wpAny_pure ?_)) | refine wpAny_bind (wpAny_typeNameOf_keyiter hit.typeIs (wpAny_pure ?_))
  refine wpAny_bind (wpAny_isOneOf_keyiter hit.typeIs ?_)
  show wpAny _ _ (setField (.ref it) 1 (rawInt ((i : Int) + 1)) >>= _) _ _ s
  refine wpAny_bind (wpAny_setField ho hd (by simp) ?_)
  have hit' : (s.heap.update it (Obj.mapFields (·.setIfInBounds 1 (rawInt ((i : Int) + 1))))).IsKeyIter it d (i + 1) ds.length ep :=
    ⟨_, Heap.get?_update_self _ ho (Obj.isFreed_of_fields (Obj.data_mapFields hd _)), (Obj.cls_mapFields ..).trans hc, by rw [Obj.data_mapFields hd]; simp [rawInt]⟩
  refine wpAny_bind (wpAny_holding (wpAny_bind (wpAny_isOneOf_keyiter (s := { s with heap := s.heap.update it (Obj.mapFields (·.setIfInBounds 1 (rawInt ((i : Int) + 1)))) }) hit'.typeIs ?_)))
  show wpAny _ _ (pure (ds.toArray[i]).key) _ _ _
  rw [hen]
  exact wpAny_pure (wpAny_pure ⟨_, rfl, wpAny_pure (hQ _ hit' (Heap.SameBut.update ..))⟩)
theorem keyNext_end {Q : Value → Shared → Prop} (hh : A.handled = none) (hit : s.heap.IsKeyIter it d i ds.length ep) (hod : s.heap.get? d = some (dObj ds ep)) (hge : ds.length ≤ i)
    (hE : ∀ h' e, Heap.ExtBut it s.heap h' → (∃ o, h'.get? e = some o ∧ o.cls = .type "StopIteration") → E (.ref e) { s with heap := h' }) : wpAny (model P w) A (Builtin.SmallTypes.nextOf (.ref it)) Q E s := by
  obtain ⟨o, ho, hc, hd⟩ := id hit
  have hdd : (dObj ds ep).data = .dict ds.toArray ep := rfl
  have hge' : ds.toArray.size ≤ i := by simpa using hge
  unfold Builtin.SmallTypes.nextOf
  refine wpAny_bind (wpAny_callSpecial?_slot (name := Str.ofString "__next__") hit.typeIs F.slot_dict_keyiterator_next (wpAny_call_entry F.slot_dict_keyiterator_next hit.typeIs F.entry_dict_keyiterator_next ?_ (F.args_dict_keyiterator_next_1 _)))
  refine wpAny_bind (wpAny_pure (wpAny_bind (wpAny_bind ?_)))
  first | refine wpAny_bind (wpAny_typeNameOfWhole_keyiter hit.typeIs (wpAny_pure (wpAny_bind (wpAny_fieldsOf ho hd ?_)))) | refine wpAny_bind (wpAny_typeNameOf_keyiter hit.typeIs (wpAny_pure (wpAny_bind (wpAny_fieldsOf ho hd ?_))))
  simp only [show Builtin.Dict_items.ownsTuple "dict_keyiterator" = false by decide, Bool.false_eq_true, if_false]
  show wpAny _ _ (if (Value.ref d == Value.none) = true then _ else _) _ _ s
  rw [if_neg (show ¬ ((Value.ref d == Value.none) = true) from Bool.false_ne_true)]
  refine wpAny_bind (wpAny_pure (wpAny_bind (wpAny_dictEntries hod hdd ?_)))
  rw [if_neg (by simp)]
  refine wpAny_bind (wpAny_pure (wpAny_bind (wpAny_dictEpoch hod hdd ?_)))
  rw [if_neg (by simp)]
  refine wpAny_pure ?_
  simp only [show ¬ ((i : Int) < 0) from by omega, if_false, Int.toNat_natCast, Array.getElem?_eq_none hge']
  refine wpAny_bind ?_
  first | refine wpAny_bind (wpAny_typeNameOfWhole_keyiter hit.typeIs (wpAny_pure ?_)) | refine wpAny_bind (wpAny_typeNameOf_keyiter hit.typeIs (wpAny_pure ?_))
  show wpAny _ _ (setField (.ref it) 0 .none >>= _) _ _ s
  refine wpAny_bind (wpAny_setField ho hd (by simp) ?_)
  show wpAny _ _ (newExc (.type "StopIteration") [] >>= _) _ _ _
  refine wpAny_bind ?_
  simp only [newExc, newTuple]
  refine wpAny_bind (wpAny_newObj_type (wpAny_bind (m := firstArgMember _ _) (wpAny_of_eq (a := Value.none) (by first | rfl | (simp only [firstArgMember]; rfl)) (wpAny_newObj_type ?_ (by size_fits)))) (by size_fits))
  simp only [raiseNew]
  refine wpAny_bind (wpAny_handled ?_)
  rw [show A.in1.handled = none from hh]
  refine wpAny_bind (wpAny_pure (wpAny_throw ?_))
  exact hE _ _ (((Heap.SameBut.update ..).extBut.push _).push _) ⟨_, Heap.get?_push_size _ rfl, rfl⟩
theorem draws_keys (hh : A.handled = none) (hne : d ≠ it) : Draws P w A it [it, d] ds.length (fun i v => ∃ en, ds[i]? = some en ∧ v = en.key) (fun i h => h.IsKeyIter it d i ds.length ep ∧ h.get? d = some (dObj ds ep)) where
  live := fun _ _ st => let ⟨o, ho, _⟩ := st.1; ⟨o, ho⟩
  frame := fun _ _ _ st hk => ⟨st.1.at fun o e => hk it (by simp) o e, hk d (by simp) _ st.2⟩
  item := fun i s Q E hi st hQ => by
    refine keyNext_item st.1 st.2 (List.getElem?_eq_getElem hi) fun h' hit' hs' => ?_
    exact hQ _ h' s.toks ⟨_, List.getElem?_eq_getElem hi, rfl⟩ ⟨hit', (hs'.2 d hne).trans st.2⟩ hs'
  done := fun s Q E st hE => keyNext_end hh st.1 st.2 (Nat.le_refl _) hE
end

/-! ### data that is drawn from -/
/-- an object at a, where Go stands, gives the values vs -/
structure Src (P : Program) (w : World) (K : PySem.W.Frag) (a : Addr) (vs : List V) (Go : Hp → Prop) where
  ist : Addr → Nat → Heap → Prop
  o : Obj
  begin_ : ∀ (X : Cx) (pins : List (Addr × Obj)) (s : Shared) (τ : L2.St) (H : Hp), X.prog = P → X.w = w → X.K = K → Inv X pins τ H s → Go H → ∃ Hq, Begins (.ref a) o Hq ∧ Hq s.heap
  start : ∀ it h, h.get? it = some o → ist it 0 h
  obj : ∀ it i h, ist it i h → ∃ ob, h.get? it = some ob ∧ ∀ v, ob.data ≠ .cell v
  keep : ∀ it i h h', ist it i h → (∀ ob, h.get? it = some ob → h'.get? it = some ob) → ist it i h'
  old : ∀ H, Go H → H a ≠ none ∨ ∃ ob, K.lookup a = some ob
  drw : ∀ (X : Cx) (pins : List (Addr × Obj)) (s : Shared) (τ : L2.St) (H : Hp), X.prog = P → X.w = w → X.K = K → X.calm = true → Inv X pins τ H s → Go H → ∀ it i, ist it i s.heap → a ≠ it ∧ ∃ (its : List Value) (Ob : Heap → Prop),
    Vals vs its ∧ Ob s.heap ∧ Draws P w X.A.in1 it [it, a] vs.length (fun i v => its[i]? = some v) fun i h => ist it i h ∧ Ob h
section
variable {P : Program} {w : World} {K : PySem.W.Frag} {a : Addr}
def srcList (xs : List V) : Src P w K a xs fun H => Rd H a (.lst xs) where
  ist := fun it i h => h.IsListIter it a i
  o := { cls := .type "list_iterator", data := .fields #[.ref a, .int 0 0] }
  begin_ := fun X pins s τ H hP hw hK I g => by
    obtain ⟨its, n, rv, eo, hz⟩ := lstR I g
    exact ⟨_, begins_list a its.toArray, ⟨_, eo, rfl, n, rfl⟩⟩
  start := fun it h e => ⟨_, e, rfl, rfl⟩
  obj := fun it i h ⟨o, e, c, dd⟩ => ⟨o, e, fun v z => by rw [dd] at z; cases z⟩
  keep := fun it i h h' st k => st.at fun o e => k o e
  old := fun H g => .inl (by rcases g with g | ⟨o, g⟩ <;> (rw [g]; exact fun z => nomatch z))
  drw := fun X pins s τ H hP hw hK hc I g it i st => by
    subst hP hw hK
    obtain ⟨its, n, rv, eo, hz⟩ := lstR I g
    have hne : a ≠ it := fun z => by
      obtain ⟨o, e, c, dd⟩ := st
      rw [← z, eo] at e
      cases e
      injection c with c
      exact absurd c (by decide)
    refine ⟨hne, its, fun h => h.IsList a its.toArray, rv, ⟨_, eo, rfl, n, rfl⟩, ?_⟩
    have D := Draws.list (prog := X.prog) (w := X.w) (A := X.A.in1) (I.ok.hd hc) it a hne its.toArray
    rw [rv.length]
    simpa using D
def srcTup (xs : List V) : Src P w K a xs fun H => SqT K H a xs where
  ist := fun it i h => h.IsTupleIter it a i
  o := { cls := .type "tuple_iterator", data := .fields #[.ref a, .int 0 0] }
  begin_ := fun X pins s τ H hP hw hK I g => by
    subst hK
    obtain ⟨its, rv, p, hz⟩ := I.tuple g
    exact ⟨_, begins_tuple a its.toArray, p⟩
  start := fun it h e => ⟨_, e, rfl, rfl⟩
  obj := fun it i h ⟨o, e, c, dd⟩ => ⟨o, e, fun v z => by rw [dd] at z; cases z⟩
  keep := fun it i h h' st k => st.at fun o e => k o e
  old := fun H g => by
    rcases g with (g | ⟨o, g⟩) | ⟨o, _, _, g, _⟩
    · exact .inl (by rw [g]; exact fun z => nomatch z)
    · exact .inl (by rw [g]; exact fun z => nomatch z)
    · exact .inr ⟨_, g⟩
  drw := fun X pins s τ H hP hw hK hc I g it i st => by
    subst hP hw hK
    obtain ⟨its, rv, p, hz⟩ := I.tuple g
    have hne : a ≠ it := fun z => by
      obtain ⟨o, e, c, dd⟩ := st
      obtain ⟨o2, e2, c2, _⟩ := p
      rw [← z, e2] at e
      cases e
      rw [c] at c2
      injection c2 with c2
      exact absurd c2 (by decide)
    refine ⟨hne, its, fun h => h.IsTuple a its.toArray, rv, p, ?_⟩
    have D := Draws.tuple (prog := X.prog) (w := X.w) (A := X.A.in1) (I.ok.hd hc) it a hne its.toArray
    rw [rv.length]
    simpa using D
def srcKeys (ds : List DictEntry) (ep : Nat) (vs : List V) (hv : Vals vs (ds.map (·.key))) (hd : (a == sysModules) = false) : Src P w K a vs fun H => FzA K H a ds ep where
  ist := fun it i h => h.IsKeyIter it a i ds.length ep
  o := { cls := .type "dict_keyiterator", data := .fields #[.ref a, .int 0 0, .int ds.length 0, .int ep 0] }
  begin_ := fun X pins s τ H hP hw hK I g => by
    subst hK
    exact ⟨_, begins_keys hd, g.get I⟩
  start := fun it h e => ⟨_, e, rfl, rfl⟩
  obj := fun it i h ⟨o, e, c, dd⟩ => ⟨o, e, fun v z => by rw [dd] at z; cases z⟩
  keep := fun it i h h' st k => st.at fun o e => k o e
  old := fun H g => by
    rcases g with g | g
    · exact .inl (by rw [g]; exact fun z => nomatch z)
    · exact .inr ⟨_, g⟩
  drw := fun X pins s τ H hP hw hK hc I g it i st => by
    subst hP hw hK
    have hg := g.get I
    have hne : a ≠ it := fun z => by
      obtain ⟨o, e, c, dd⟩ := st
      rw [← z, hg] at e
      cases e
      injection c with c
      exact absurd c (by decide)
    have hl : vs.length = ds.length := by
      have := hv.length
      simpa using this
    refine ⟨hne, ds.map (·.key), fun h => h.get? a = some (dObj ds ep), hv, hg, ?_⟩
    have D := draws_keys (P := X.prog) (w := X.w) (A := X.A.in1) (ep := ep) (ds := ds) (I.ok.hd hc) hne
    rw [hl]
    have e : (fun (i : Nat) (v : Value) => ∃ en, ds[i]? = some en ∧ v = en.key) = fun i v => (ds.map (·.key))[i]? = some v := by
      funext i v
      rw [List.getElem?_map]
      cases ds[i]? with
      | none => simp
      | some en => simp [eq_comm]
    rw [e] at D
    exact D
end

theorem Src.apart {P : Program} {w : World} {K : PySem.W.Frag} {a b : Addr} {vs : List V} {Go : Hp → Prop} (S : Src P w K a vs Go) {X : Cx} {pins : List (Addr × Obj)} {s : Shared} {τ : L2.St} {H : Hp} (hK : X.K = K) (I : Inv X pins τ H s) (g : Go H) (h : FpOk X pins H b) : b ≠ a := fun z => by
  subst hK
  rcases S.old H g with q | ⟨ob, q⟩
  · exact q (by rw [← z]; exact h.1)
  · have hb := I.ok.mod.kin a ob q
    rcases h.2.2.2.1 with e | e
    · exact I.ok.noex a ob hb (by rw [← z]; exact e)
    · have h1 := (I.ok.bs a ob hb).1
      have h2 := Heap.lt_size h1
      rw [← z] at h2
      exact absurd h2 (Nat.not_lt.mpr e)

/-! ### enumerate -/
/-- pairs of a number and a value, new tuples -/
def ItE (vs : List V) (Go : Hp → Prop) : It :=
  ⟨fun i H => Go H ∧ i < vs.length, fun i H v H' => ∃ T x, v = .ref T ∧ H T = none ∧ H' = upd H T (.tup [.int (i : Nat), x]) ∧ vs[i]? = some x, fun i H => Go H ∧ i = vs.length⟩
theorem turn_enumD {P : Program} {w : World} {K : PySem.W.Frag} {elts : List Expr} {kk : Nat} {tpos : Pos} {a : Addr} {vs : List V} {Go : Hp → Prop} (S : Src P w K a vs Go) (hf : ∀ H T o, Go H → H T = none → Go (upd H T o)) (e it : Addr) :
    Turn P w K (.Tuple elts kk tpos) (ItE vs Go) [e, it] e (fun i h => (∃ old, IsEnum h e it ((i : Nat) : Int) old) ∧ S.ist it i h ∧ e ≠ it) where
  mem := by simp
  obj := fun i h st b hb => by
    obtain ⟨⟨old, he⟩, hi, _⟩ := st
    have e' : b = e ∨ b = it := by simpa using hb
    rcases e' with z | z
    · rw [z]; exact ⟨_, he, fun v q => nomatch q⟩
    · rw [z]; exact S.obj it i h hi
  keep := fun i h h' st k => let ⟨⟨old, he⟩, hi, hne⟩ := st; ⟨⟨old, k e (by simp) _ he⟩, S.keep it i h h' hi fun o q => k it (by simp) o q, hne⟩
  item := by
    intro X hP hw hK hc i pins s σ H E I hfp st hg
    obtain ⟨⟨old, he⟩, hit, hne⟩ := st
    obtain ⟨hgo, hlt⟩ := hg
    obtain ⟨hai, its, Ob, rv, hob, D⟩ := S.drw X pins s σ H hP hw hK hc I hgo it i hit
    subst hP hw hK
    obtain ⟨oi, hoi, _⟩ := S.obj it i _ hit
    have hel : e < s.heap.objs.size := Heap.lt_size he
    have hil : it < s.heap.objs.size := Heap.lt_size hoi
    have hae : e ≠ a := S.apart rfl I hgo (hfp e (by simp))
    obtain ⟨x, hx⟩ : ∃ x, vs[i]? = some x := ⟨_, List.getElem?_eq_getElem hlt⟩
    refine wpAny_pyNext_enum_itemC D he ⟨hit, hob⟩ hlt hne (by simp [hne, hae]) fun u h' tk hu ho hit' hT hsz hk => ?_
    obtain ⟨u', hu', ru⟩ := rv.get hx
    have hu := Option.some.inj (hu'.symm.trans hu)
    subst hu
    refine ⟨_, rfl, wpAny_letOwnedTupleGo_enum (s := { s with heap := h', toks := tk + 1 }) ho fun h'' he' sb => ?_⟩
    have hT2 : h''.get? s.heap.objs.size = some { cls := .type "tuple", data := .seq #[.int i tk, u'] } := (sb.2 _ (Nat.ne_of_gt hel)).trans hT
    have new : ObjOk X.prog X.w (upd H s.heap.objs.size (.tup [.int (i : Nat), x])) h'' s.heap.objs.size (.tup [.int (i : Nat), x]) :=
      ⟨by show 2 ≤ sizeLine; decide, [.int i tk, u'], .cons ⟨_, rfl⟩ (.cons ru .nil), ⟨_, hT2, rfl, _, rfl⟩⟩
    have I1 : Inv X pins σ (upd H s.heap.objs.size (.tup [.int (i : Nat), x])) { s with heap := h'', toks := tk + 1 } :=
      I.turnedNew (ch := [e, it]) (fun b ob hb q => (sb.2 b (fun z => hb (by simp [z]))).trans (hk b ob (fun z => hb (by simp [z])) (fun z => hb (by simp [z])) q)) hfp (Nat.le_refl _) new
    refine ⟨.ref s.heap.objs.size, _, I1, rfl, ⟨_, x, rfl, I.hok.fresh (Nat.le_refl _), rfl, hx⟩, ⟨⟨u', ?_⟩, S.keep it _ _ _ hit'.1 (fun o q => (sb.2 it (Ne.symm hne)).trans q), hne⟩, fun b hb => ?_⟩
    · have e1 : ((i + 1 : Nat) : Int) = (i : Int) + 1 := by omega
      rw [e1]; exact he'
    · have hb' : b < s.heap.objs.size := by
        have e' : b = e ∨ b = it := by simpa using hb
        rcases e' with z | z
        · rw [z]; exact hel
        · rw [z]; exact hil
      rw [upd_ne (Nat.ne_of_lt hb')]
      exact (hfp b hb).1
  done := by
    intro X hP hw hK hc i pins s σ H E I hfp st hg
    obtain ⟨⟨old, he⟩, hit, hne⟩ := st
    obtain ⟨hgo, hi⟩ := hg
    subst hi
    obtain ⟨hai, its, Ob, rv, hob, D⟩ := S.drw X pins s σ H hP hw hK hc I hgo it _ hit
    subst hP hw hK
    obtain ⟨f0, f1, f2, f3, f4, f5⟩ := hfp it (by simp)
    exact wpAny_pyNext_enum_endD D he ⟨hit, hob⟩ fun h' eb => ⟨rfl, I.turned (t' := s.toks) (fun b o hb q => eb b o hb q) f0 f1 f3 f4 f5⟩
  self := fun A i s Q E st h => let ⟨⟨_, he⟩, _⟩ := st; wpAny_pyIter_enum he h

/-! ### zip -/
def ItZ (xs ys : List V) (Go : Hp → Prop) : It :=
  ⟨fun i H => Go H ∧ i < xs.length ∧ i < ys.length, fun i H v H' => ∃ T x y, v = .ref T ∧ H T = none ∧ H' = upd H T (.tup [x, y]) ∧ xs[i]? = some x ∧ ys[i]? = some y, fun i H => Go H ∧ i ≤ xs.length ∧ i ≤ ys.length ∧ (i = xs.length ∨ i = ys.length)⟩
structure Zip5 (z TI TO i1 i2 : Addr) : Prop where
  a1 : TI ≠ z
  a2 : TO ≠ z
  a3 : TI ≠ TO
  a4 : TI ≠ i1
  a5 : TI ≠ i2
  a6 : TO ≠ i1
  a7 : TO ≠ i2
  a8 : z ≠ i1
  a9 : z ≠ i2
  b1 : i1 ≠ i2
theorem turn_zipD {P : Program} {w : World} {K : PySem.W.Frag} {elts : List Expr} {kk : Nat} {tpos : Pos} {a b : Addr} {xs ys : List V} {Go1 Go2 : Hp → Prop} (S1 : Src P w K a xs Go1) (S2 : Src P w K b ys Go2) (z TI TO i1 i2 : Addr) (D5 : Zip5 z TI TO i1 i2) :
    Turn P w K (.Tuple elts kk tpos) (ItZ xs ys fun H => Go1 H ∧ Go2 H) [z, TI, TO, i1, i2] z (fun i h => IsZip h z TI TO .none ∧ IsTupOf2 h TI (.ref i1) (.ref i2) ∧ (∃ x y, IsTupOf2 h TO x y) ∧ S1.ist i1 i h ∧ S2.ist i2 i h) where
  mem := by simp
  obj := fun i h st c hc => by
    obtain ⟨hz, hTI, ⟨x, y, hTO⟩, h1, h2⟩ := st
    have e' : c = z ∨ c = TI ∨ c = TO ∨ c = i1 ∨ c = i2 := by simpa using hc
    rcases e' with q | q | q | q | q
    · rw [q]; exact ⟨_, hz, fun v q => nomatch q⟩
    · rw [q]; exact ⟨_, hTI, fun v q => nomatch q⟩
    · rw [q]; exact ⟨_, hTO, fun v q => nomatch q⟩
    · rw [q]; exact S1.obj i1 i h h1
    · rw [q]; exact S2.obj i2 i h h2
  keep := fun i h h' st k => by
    obtain ⟨hz, hTI, ⟨x, y, hTO⟩, h1, h2⟩ := st
    exact ⟨k z (by simp) _ hz, k TI (by simp) _ hTI, ⟨x, y, k TO (by simp) _ hTO⟩, S1.keep i1 i h h' h1 fun o q => k i1 (by simp) o q, S2.keep i2 i h h' h2 fun o q => k i2 (by simp) o q⟩
  item := by
    intro X hP hw hK hc i pins s σ H E I hfp st hg
    obtain ⟨hz, hTI, ⟨x0, y0, hTO⟩, h1, h2⟩ := st
    obtain ⟨⟨g1, g2⟩, l1, l2⟩ := hg
    obtain ⟨n1, its, Ob1, rv1, hob1, D1⟩ := S1.drw X pins s σ H hP hw hK hc I g1 i1 i h1
    obtain ⟨n2, its2, Ob2, rv2, hob2, D2⟩ := S2.drw X pins s σ H hP hw hK hc I g2 i2 i h2
    have apA : ∀ c ∈ [z, TI, TO, i1, i2], c ≠ a ∧ c ≠ b := fun c hcm => ⟨S1.apart hK I g1 (hfp c hcm), S2.apart hK I g2 (hfp c hcm)⟩
    subst hP hw hK
    have S : ZipSep2 z TI TO i1 i2 [i1, a] [i2, b] := ⟨D5.a1, D5.a2, D5.a3, D5.a4, by simp, by simp [D5.a8, (apA z (by simp)).1], by simp [D5.a6, (apA TO (by simp)).1], D5.a5, by simp, by simp [D5.a9, (apA z (by simp)).2], by simp [D5.a7, (apA TO (by simp)).2], by simp [D5.b1, (apA i1 (by simp)).2], by simp [Ne.symm D5.b1, (apA i2 (by simp)).1]⟩
    have hzl : z < s.heap.objs.size := Heap.lt_size hz
    obtain ⟨x, hx⟩ : ∃ x, xs[i]? = some x := ⟨_, List.getElem?_eq_getElem l1⟩
    obtain ⟨y, hy⟩ : ∃ y, ys[i]? = some y := ⟨_, List.getElem?_eq_getElem l2⟩
    obtain ⟨u1, hu1, ru1⟩ := rv1.get hx
    obtain ⟨u2, hu2, ru2⟩ := rv2.get hy
    refine wpAny_pyNext_zipD2_item S D1 D2 hz hTI hTO ⟨h1, hob1⟩ ⟨h2, hob2⟩ l1 l2 fun y1 y2 h' tk e1 e2 z' TO' s1' s2' hT hsz hk => ?_
    have e1 := Option.some.inj (hu1.symm.trans e1)
    have e2 := Option.some.inj (hu2.symm.trans e2)
    subst e1 e2
    refine ⟨_, rfl, wpAny_letOwnedTupleGo_zip (s := { s with heap := h', toks := tk }) z' fun h'' z'' sb => ?_⟩
    have hT2 : h''.get? s.heap.objs.size = some { cls := .type "tuple", data := .seq #[u1, u2] } := (sb.2 _ (Nat.ne_of_gt hzl)).trans hT
    have new : ObjOk X.prog X.w (upd H s.heap.objs.size (.tup [x, y])) h'' s.heap.objs.size (.tup [x, y]) :=
      ⟨by show 2 ≤ sizeLine; decide, [u1, u2], .cons ru1 (.cons ru2 .nil), ⟨_, hT2, rfl, _, rfl⟩⟩
    have kk : ∀ c o, c ≠ z → c ≠ TO → c ≠ i1 → c ≠ i2 → s.heap.get? c = some o → h''.get? c = some o := fun c o c1 c2 c3 c4 q => (sb.2 c c1).trans (hk c o c1 c2 c3 c4 q)
    have I1 : Inv X pins σ (upd H s.heap.objs.size (.tup [x, y])) { s with heap := h'', toks := tk } :=
      I.turnedNew (ch := [z, TI, TO, i1, i2]) (fun c ob hb q => kk c ob (fun e => hb (by simp [e])) (fun e => hb (by simp [e])) (fun e => hb (by simp [e])) (fun e => hb (by simp [e])) q) hfp (Nat.le_refl _) new
    refine ⟨.ref s.heap.objs.size, _, I1, rfl, ⟨_, x, y, rfl, I.hok.fresh (Nat.le_refl _), rfl, hx, hy⟩, ⟨z'', kk TI _ D5.a1 D5.a3 D5.a4 D5.a5 hTI, ⟨_, _, (sb.2 TO D5.a2).trans TO'⟩,
      S1.keep i1 _ _ _ s1'.1 fun o q => (sb.2 i1 (Ne.symm D5.a8)).trans q, S2.keep i2 _ _ _ s2'.1 fun o q => (sb.2 i2 (Ne.symm D5.a9)).trans q⟩, fun c hcm => ?_⟩
    have hc' : c < s.heap.objs.size := by
      have e' : c = z ∨ c = TI ∨ c = TO ∨ c = i1 ∨ c = i2 := by simpa using hcm
      rcases e' with q | q | q | q | q
      · rw [q]; exact hzl
      · rw [q]; exact Heap.lt_size hTI
      · rw [q]; exact Heap.lt_size hTO
      · rw [q]; exact let ⟨_, e, _⟩ := S1.obj i1 i _ h1; Heap.lt_size e
      · rw [q]; exact let ⟨_, e, _⟩ := S2.obj i2 i _ h2; Heap.lt_size e
    rw [upd_ne (Nat.ne_of_lt hc')]
    exact (hfp c hcm).1
  done := by
    intro X hP hw hK hc i pins s σ H E I hfp st hg
    obtain ⟨hz, hTI, ⟨x0, y0, hTO⟩, h1, h2⟩ := st
    obtain ⟨⟨g1, g2⟩, l1, l2, le⟩ := hg
    obtain ⟨n1, its, Ob1, rv1, hob1, D1⟩ := S1.drw X pins s σ H hP hw hK hc I g1 i1 i h1
    obtain ⟨n2, its2, Ob2, rv2, hob2, D2⟩ := S2.drw X pins s σ H hP hw hK hc I g2 i2 i h2
    have apA : ∀ c ∈ [z, TI, TO, i1, i2], c ≠ a ∧ c ≠ b := fun c hcm => ⟨S1.apart hK I g1 (hfp c hcm), S2.apart hK I g2 (hfp c hcm)⟩
    subst hP hw hK
    have S : ZipSep2 z TI TO i1 i2 [i1, a] [i2, b] := ⟨D5.a1, D5.a2, D5.a3, D5.a4, by simp, by simp [D5.a8, (apA z (by simp)).1], by simp [D5.a6, (apA TO (by simp)).1], D5.a5, by simp, by simp [D5.a9, (apA z (by simp)).2], by simp [D5.a7, (apA TO (by simp)).2], by simp [D5.b1, (apA i1 (by simp)).2], by simp [Ne.symm D5.b1, (apA i2 (by simp)).1]⟩
    refine wpAny_pyNext_zipD2_end S D1 D2 hz hTI hTO ⟨h1, hob1⟩ ⟨h2, hob2⟩ l1 l2 le fun h' tk hk => ⟨rfl, ?_⟩
    exact I.turnedL (t' := tk) (ch := [z, TI, TO, i1, i2]) (fun c o hb q => hk c o (fun q' => hb (by simp [q'])) (fun q' => hb (by simp [q'])) (fun q' => hb (by simp [q'])) (fun q' => hb (by simp [q'])) q) hfp
  self := fun A i s Q E st h => wpAny_pyIter_zip st.1 h

set_option maxHeartbeats 4000000 in
theorem meets_enum1 {v : Value} {o : Obj} {H : Heap → Prop} (B : Begins v o H) : Meets (Builtin.«enumerate.__new__» ⟨[.type "enumerate", v], []⟩) (fun _ R s => H s.heap ∧
      R (.ok (.ret (.ref (s.heap.push o).objs.size))) { s with heap := (s.heap.push o).push { cls := .type "enumerate", data := .fields #[.none, .bool false, .ref s.heap.objs.size, rawInt 0, .none, .none] } }) :=
  .of_wp fun prog w A R s h => by
    obtain ⟨hp, g, d, tk, os⟩ := s
    obtain ⟨h1, h⟩ := h
    have hsub := sub_enumerate
    have q1 : ∀ {A' : Around} {E : Value → Shared → Prop} {Q : Value → Shared → Prop}, Q (.ref hp.objs.size) ⟨hp.push o, g, d, tk, os⟩ → wpAny (model prog w) A' (pyIter v) Q E ⟨hp, g, d, tk, os⟩ :=
      fun q => B.iter prog w _ _ ⟨hp, g, d, tk, os⟩ _ h1 q
    wp_walk using q1
    refine wpAny_stack_any fun st => wpAny_pure ?_
    split
    · rename_i c _ _ _ _ _
      cases (c == Value.type "enumerate")
      · wp_walk using q1
        exact ⟨_, rfl, h⟩
      · wp_walk using q1
        exact ⟨_, rfl, h⟩
    · wp_walk using q1
      exact ⟨_, rfl, h⟩
theorem enum_begins1 {P : Program} {w : World} {A : Around} {E : Value → Shared → Prop} {s : Shared} {v : Value} {o : Obj} {H : Heap → Prop} {Q : Value → Shared → Prop} (B : Begins v o H) (h1 : H s.heap)
    (h : ∀ h', IsEnum h' (s.heap.objs.size + 1) s.heap.objs.size 0 .none → h'.get? s.heap.objs.size = some o → (∀ b o, s.heap.get? b = some o → h'.get? b = some o) → Q (.ref (s.heap.objs.size + 1)) { s with heap := h' }) :
    wpAny (model P w) A (call (.type "enumerate") [v]) Q E s := by
  refine callType_new F.called_enumerate (by decide) (F.typeCall_enumerate_1 _) (F.newCall_enumerate_1 _) (fun obj => F.args_object_init_2 obj _) F.entry_enumerate_new (meets_enum1 B) ⟨h1, ?_⟩
  have hz : (s.heap.push o).objs.size = s.heap.objs.size + 1 := Heap.size_push ..
  show _ ∧ _
  rw [hz]
  have he : IsEnum ((s.heap.push o).push { cls := .type "enumerate", data := .fields #[.none, .bool false, .ref s.heap.objs.size, rawInt 0, .none, .none] }) (s.heap.objs.size + 1) s.heap.objs.size 0 .none := by
    have := Heap.get?_push_size (s.heap.push o) (o := { cls := .type "enumerate", data := .fields #[.none, .bool false, .ref s.heap.objs.size, rawInt 0, .none, .none] }) rfl
    rw [hz] at this; exact this
  exact ⟨⟨_, he, rfl⟩, h _ he (Heap.get?_push_of_some _ (Heap.get?_push_size _ B.free)) fun b o x => Heap.get?_push_of_some _ (Heap.get?_push_of_some _ x)⟩

/-! ### as iterators of a for -/
section
variable {F : Fx} {Wx : WX} {X : Cx} {e e2 : Expr} {f g : FE} {p pos tpos : Pos} {elts : List Expr} {kk : Nat}
/-- where it is drawn from -/
structure SrcW (F : Fx) (X : Cx) (ρ : List Addr) (H : Hp) (a : Addr) (ws : List W) (vs : List V) (Go : Hp → Prop) where
  src : Src X.prog X.w X.K a vs Go
  go : ∀ ρ' H', ExtB ρ H ρ' H' → Go H'
  up : ∀ H T o, Go H → H T = none → Go (upd H T o)
  rel : Rps F ρ H ws vs
theorem srcW_of (hK : F.K = X.K) {pins : List (Addr × Obj)} {s : Shared} {τ : L2.St} {ρ : List Addr} {H : Hp} {w : W} {v : V} {ws : List W} (I : Inv X pins τ H s) (r : Rp F ρ H w v) (e : walkW w = some ws) : ∃ a vs Go, v = .ref a ∧ Nonempty (SrcW F X ρ H a ws vs Go) := by
  cases w with
  | lst us =>
    cases e
    obtain ⟨a, xs, rfl, h1, h2⟩ := r
    exact ⟨a, xs, _, rfl, ⟨srcList xs, fun ρ' H' x => (x.fzL h1).rd, fun H T o g n => by
      rcases g with g | ⟨q, g⟩
      · exact .inl (by rw [upd_ne (ne_of_none g n)]; exact g)
      · exact .inr ⟨q, by rw [upd_ne (ne_of_none g n)]; exact g⟩, h2⟩⟩
  | tup us =>
    cases e
    obtain ⟨a, xs, rfl, h1, h2⟩ := r
    rw [hK] at h1
    exact ⟨a, xs, _, rfl, ⟨srcTup xs, fun ρ' H' x => x.sqT h1, fun H T o g n => by
      rcases g with (g | ⟨q, g⟩) | g
      · exact .inl (.inl (by rw [upd_ne (ne_of_none g n)]; exact g))
      · exact .inl (.inr ⟨q, by rw [upd_ne (ne_of_none g n)]; exact g⟩)
      · exact .inr g, h2⟩⟩
  | dic es =>
    cases e
    obtain ⟨a, ds, rfl, h0, h1, hz, kd, h2⟩ := r
    obtain ⟨ep, h3⟩ := fzA_of hK I h1
    obtain ⟨vs, r3, r4⟩ := keys_rel h2
    exact ⟨a, vs, _, rfl, ⟨srcKeys ds ep vs r4 h0, fun ρ' H' x => h3.imp (fun h => x.frz _ _ _ h) id, fun H T o g n => by
      rcases g with g | g
      · exact .inl (by rw [upd_ne (ne_of_none g n)]; exact g)
      · exact .inr g, r3⟩⟩
  | _ => cases e
theorem walk_len {ρ : List Addr} {H : Hp} {ws : List W} {vs : List V} (r : Rps F ρ H ws vs) : vs.length = ws.length := r.length
theorem enumT_get : ∀ (ws : List W) (k i : Nat) (w : W), (enumT k ws)[i]? = some w → ∃ u, ws[i]? = some u ∧ w = .tup [.int ((k + i : Nat) : Int), u]
  | [], _, _, _, h => by cases h
  | x :: r, k, 0, w, h => by
    cases h
    exact ⟨x, rfl, rfl⟩
  | x :: r, k, i + 1, w, h => by
    obtain ⟨u, e1, e2⟩ := enumT_get r (k + 1) i w h
    exact ⟨u, e1, by rw [e2]; congr 4; omega⟩
theorem enumT_len : ∀ (ws : List W) (k : Nat), (enumT k ws).length = ws.length
  | [], _ => rfl
  | _ :: r, k => congrArg (· + 1) (enumT_len r (k + 1))
/-- a pair just laid -/
theorem itok_pair {ρ : List Addr} {H : Hp} {T : Addr} {ws : List W} {xs : List V} (hT : H T = none) (r : Rps F ρ H ws xs) : Ext ρ H ρ (upd H T (.tup xs)) ∧ (∀ M, RelS F ρ H M → RelS F ρ (upd H T (.tup xs)) M) ∧ Rp F ρ (upd H T (.tup xs)) (.tup ws) (.ref T) :=
  ⟨Ext.upd0 hT, fun M rs => rs.upd0 hT, T, xs, rfl, SqT.of upd_same, Rps.mono (Ext.upd0 hT) _ _ r⟩
theorem i_enum (ok : CxOk F X) (hg : Gl X "enumerate") (hm : X.mg "enumerate" = none) (he : PE X e (tE F Wx f)) (hs : starEach [e] X.env = [(false, eval e X.env)]) :
    PI X (.Tuple elts kk tpos) (.Call (.Name "enumerate" p) [e] [] pos) (tI F Wx fun σ M => (f σ M).bind enumIt) := by
  refine ⟨fun pins s τ H R I ⟨ρ, σ, M, rs, rg, q⟩ => ?_⟩
  have ha : PA X [e] (tCons (tE F Wx f) tNil) := pa_cons he pa_nil hs
  refine Call_ (ld_blt I hg hm boot_enumerate (PyProof.Rows.callWith_type1 (thn (ha.run pos pins s τ H (fun vs H1 => ∃ v ρ1 w M1, vs = [v] ∧ RelS F ρ1 H1 M1 ∧ Rp F ρ1 H1 w v ∧ oK F (fun ρ H ws J => ItOk F J ws ρ H) (fun c d H' => Wx c d τ H') R ρ1 H1 (enumIt w M1)) I
    (tE_bind rs rg q fun ρ1 w M1 v H1 x1 rs1 rg1 r1 q1 => ⟨v, ρ1, w, M1, rfl, rs1, r1, q1⟩)) fun us s1 ⟨vs, H1, I1, rv, v, ρ1, w, M1, ev, rs1, r1, q1⟩ => ?_) hs rfl))
  subst ev
  obtain ⟨u, rfl, ru⟩ := vals1 rv
  unfold enumIt at q1
  cases ew : walkW w with
  | none => rw [ew] at q1; exact q1.elim
  | some ws =>
    rw [ew] at q1
    obtain ⟨a, xs, Go, rfl, ⟨S⟩⟩ := srcW_of ok.k I1 r1 ew
    cases ru
    obtain ⟨Hq, B, hq⟩ := S.src.begin_ X pins s1 τ H1 rfl rfl rfl I1 (S.go _ _ Ext.refl.toExtB)
    refine enum_begins1 B hq fun h' hen hit hk => wpAny_pyIter_enum hen ?_
    have I2 : Inv X pins τ H1 { s1 with heap := h' } := I1.kept (t' := s1.toks) hk
    refine ⟨s1.heap.objs.size + 1, [s1.heap.objs.size + 1, s1.heap.objs.size], _, _, H1, rfl, I2, turn_enumD S.src S.up (s1.heap.objs.size + 1) s1.heap.objs.size, ⟨⟨.none, hen⟩, S.src.start _ _ hit, Nat.succ_ne_self _⟩, fun b hb => ?_, oK_ok q1 rs1 ?_⟩
    · have e' : b = s1.heap.objs.size + 1 ∨ b = s1.heap.objs.size := by simpa using hb
      have hle : s1.heap.objs.size ≤ b := by
        rcases e' with z | z
        · rw [z]; exact Nat.le_add_right _ _
        · rw [z]; exact Nat.le_refl _
      exact I1.fpOk hle (I1.hok.fresh hle)
    · intro ρ' H' x
      have hl := S.rel.length
      refine ⟨⟨S.go ρ' H' x, by rw [enumT_len, hl]⟩, fun i y hy => ?_⟩
      obtain ⟨y', hy1, rfl⟩ := enumT_get ws 0 i y hy
      have hi := (List.getElem?_eq_some_iff.mp hy1).1
      refine ⟨⟨S.go ρ' H' x, by rw [hl]; exact hi⟩, fun vv H2 yy => ?_⟩
      obtain ⟨T, xx, rfl, hT, rfl, hx⟩ := yy
      obtain ⟨v', e1, rr⟩ := Rps.get S.rel hy1
      rw [hx] at e1
      cases e1
      exact itok_pair hT ⟨_, _, rfl, by rw [Nat.zero_add]; exact rfl, _, _, rfl, Rp.monoB x _ _ rr, rfl⟩
theorem zipT_get {xs ys : List W} {i : Nat} {w : W} (h : (zipT xs ys)[i]? = some w) : ∃ x y, xs[i]? = some x ∧ ys[i]? = some y ∧ w = .tup [x, y] := by
  unfold zipT at h
  rw [List.getElem?_zipWith] at h
  cases e1 : xs[i]? with
  | none => rw [e1] at h; simp at h
  | some x =>
    cases e2 : ys[i]? with
    | none => rw [e1, e2] at h; simp at h
    | some y =>
      rw [e1, e2] at h
      simp at h
      exact ⟨x, y, rfl, rfl, h.symm⟩
theorem ne5 {n k j : Nat} (h : k ≠ j) : n + k ≠ n + j := by omega
theorem nz5 {n k : Nat} (h : k ≠ 0) : n + k ≠ n := by omega
theorem zip5 (n : Nat) : Zip5 (n + 4) (n + 2) (n + 3) n (n + 1) := ⟨ne5 (by decide), ne5 (by decide), ne5 (by decide), nz5 (by decide), ne5 (by decide), nz5 (by decide), ne5 (by decide), nz5 (by decide), ne5 (by decide), Ne.symm (nz5 (by decide))⟩
theorem i_zip (ok : CxOk F X) (hg : Gl X "zip") (hm : X.mg "zip" = none) (he : PE X e (tE F Wx f)) (he2 : PE X e2 (tE F Wx g)) (hs : starEach [e, e2] X.env = (false, eval e X.env) :: starEach [e2] X.env) (hs2 : starEach [e2] X.env = (false, eval e2 X.env) :: starEach [] X.env) (hpl : (backTo pos (starEach [e2] X.env)).any (·.1) = false) :
    PI X (.Tuple elts kk tpos) (.Call (.Name "zip" p) [e, e2] [] pos) (tI F Wx fun σ M => (f σ M).bind fun x M1 => (g σ M1).bind fun y M2 => zipIt x y M2) := by
  refine ⟨fun pins s τ H R I ⟨ρ, σ, M, rs, rg, q⟩ => ?_⟩
  have ha : PA X [e, e2] (tCons (tE F Wx f) (tCons (tE F Wx g) tNil)) := pa_cons he (pa_cons he2 pa_nil hs2) hs
  refine Call_ (ld_blt I hg hm PyProof.Rows.boot_zip (PyProof.Rows.callWith_type1 (thn (ha.run pos pins s τ H (fun vs H1 => ∃ v v2 ρ1 w w2 M1, vs = [v, v2] ∧ RelS F ρ1 H1 M1 ∧ Rp F ρ1 H1 w v ∧ Rp F ρ1 H1 w2 v2 ∧ oK F (fun ρ H ws J => ItOk F J ws ρ H) (fun c d H' => Wx c d τ H') R ρ1 H1 (zipIt w w2 M1)) I
    (tE_bind rs rg q fun ρ1 w M1 v H1 x1 rs1 rg1 r1 q1 => tE_bind rs1 rg1 q1 fun ρ2 w2 M2 v2 H2 x2 rs2 rg2 r2 q2 => ⟨v, v2, ρ2, w, w2, M2, rfl, rs2, Rp.mono x2 _ _ r1, r2, q2⟩)) fun us s1 ⟨vs, H1, I1, rv, v, v2, ρ1, w, w2, M1, ev, rs1, r1, r2, q1⟩ => ?_) hs hpl))
  subst ev
  obtain ⟨u, u2, rfl, ru, ru2⟩ := vals2 rv
  unfold zipIt at q1
  split at q1
  · rename_i ws1 ws2 ew1 ew2
    obtain ⟨a, xs, Go1, rfl, ⟨S1⟩⟩ := srcW_of ok.k I1 r1 ew1
    obtain ⟨b, ys, Go2, rfl, ⟨S2⟩⟩ := srcW_of ok.k I1 r2 ew2
    cases ru
    cases ru2
    obtain ⟨Hq1, B1, hq1⟩ := S1.src.begin_ X pins s1 τ H1 rfl rfl rfl I1 (S1.go _ _ Ext.refl.toExtB)
    obtain ⟨Hq2, B2, hq2⟩ := S2.src.begin_ X pins s1 τ H1 rfl rfl rfl I1 (S2.go _ _ Ext.refl.toExtB)
    refine zip_begins2 B1 B2 hq1 hq2 fun h' hz hTI hTO g1 g2 hsz hk => wpAny_pyIter_zip hz ?_
    have I2 : Inv X pins τ H1 { s1 with heap := h' } := I1.kept (t' := s1.toks) hk
    refine ⟨s1.heap.objs.size + 4, [s1.heap.objs.size + 4, s1.heap.objs.size + 2, s1.heap.objs.size + 3, s1.heap.objs.size, s1.heap.objs.size + 1], _, _, H1, rfl, I2, turn_zipD S1.src S2.src _ _ _ _ _ (zip5 s1.heap.objs.size), ⟨hz, hTI, ⟨_, _, hTO⟩, S1.src.start _ _ g1, S2.src.start _ _ g2⟩, fun c hcm => ?_, oK_ok q1 rs1 ?_⟩
    · have e' : c = s1.heap.objs.size + 4 ∨ c = s1.heap.objs.size + 2 ∨ c = s1.heap.objs.size + 3 ∨ c = s1.heap.objs.size ∨ c = s1.heap.objs.size + 1 := by simpa using hcm
      have hle : s1.heap.objs.size ≤ c := by
        rcases e' with z | z | z | z | z
        · rw [z]; exact Nat.le_add_right _ _
        · rw [z]; exact Nat.le_add_right _ _
        · rw [z]; exact Nat.le_add_right _ _
        · rw [z]; exact Nat.le_refl _
        · rw [z]; exact Nat.le_add_right _ _
      exact I1.fpOk hle (I1.hok.fresh hle)
    · intro ρ' H' x
      have hl1 := S1.rel.length
      have hl2 := S2.rel.length
      have hzl : (zipT ws1 ws2).length = min ws1.length ws2.length := by simp [zipT]
      refine ⟨⟨⟨S1.go ρ' H' x, S2.go ρ' H' x⟩, by omega, by omega, by omega⟩, fun i y hy => ?_⟩
      obtain ⟨y1, y2, hy1, hy2, rfl⟩ := zipT_get hy
      have hi1 := (List.getElem?_eq_some_iff.mp hy1).1
      have hi2 := (List.getElem?_eq_some_iff.mp hy2).1
      refine ⟨⟨⟨S1.go ρ' H' x, S2.go ρ' H' x⟩, by omega, by omega⟩, fun vv H2 yy => ?_⟩
      obtain ⟨T, xx, xy, rfl, hT, rfl, hx, hxy⟩ := yy
      obtain ⟨v1, e1, rr1⟩ := Rps.get S1.rel hy1
      obtain ⟨v2, e2, rr2⟩ := Rps.get S2.rel hy2
      rw [hx] at e1
      rw [hxy] at e2
      cases e1
      cases e2
      exact itok_pair hT ⟨_, _, rfl, Rp.monoB x _ _ rr1, _, _, rfl, Rp.monoB x _ _ rr2, rfl⟩
  · exact q1.elim
end
end Mp
set_option Elab.async false
set_option linter.all false
set_option maxRecDepth 100000
set_option maxHeartbeats 4000000
namespace Mp
open PySem PySem.Spec PyProof.Rows L2 SeqAt

/-- what a store into the dict at D asks -/
def StD (F : Fx) (D : Addr) (y z : V) (H : Hp) (Nx : Hp → Prop) : Prop := ∃ ρ k w es ds, H D = some (dicO D ds) ∧ Rp F ρ H k y ∧ Rp F ρ H w z ∧ keyOk 8 k = true ∧ RpE F ρ H es ds ∧ KDist es ∧ es.length ≤ sizeLine ∧ ∀ ds', RpE F ρ H (putE k w es) ds' → Nx (upd H D (dicO D ds'))
section
variable {F : Fx} {Wx : WX} {X : Cx}
theorem dset_ok (ok : CxOk F X) {pins : List (Addr × Obj)} {τ : L2.St} {H : Hp} {s : Shared} {E : Value → Shared → Prop} {D : Addr} {y z : V} {u r : Value} {Nx : Hp → Prop} {Q : Unit → Shared → Prop} (I : Inv X pins τ H s) (ry : RelV y u) (rz : RelV z r) (st : StD F D y z H Nx)
    (h : ∀ s' H', Inv X pins τ H' s' → Nx H' → Q () s') : wpAny (model X.prog X.w) X.A (dictSet D u r) Q E s := by
  obtain ⟨ρ, k, w, es, ds, hD, rk, rw', ka, re, kd, hz, nx⟩ := st
  have hu := ok.un
  obtain ⟨n1, d1⟩ := nest ok.k I k y u 8 rk ry ka
  have DD := DA.of ok.k ok.w I (.inl hD) re kd
  refine set_any (by omega) n1 d1 DD (by rw [re.len]; exact hz) fun ds' ep h' tk g1 g2 g3 => ?_
  rw [← ok.w] at g1
  exact h _ _ (Inv.putD I hD g3 g2) (nx ds' (putE_rel ka rk ry rw' rz re kd g1))
theorem big_ne {n : Nat} (h : sysModules < n) : (n == sysModules) = false := beq_eq_false_iff_ne.mpr (Nat.ne_of_gt h)
/-- the reading -/
def tDcW (F : Fx) (wi : TI) (g : TG) (tt : TT) (tk tv : TE) (vs : List Nat) : TE := fun σ H Q => wi σ H fun J H1 => ∀ D, H1 D = none → (D == sysModules) = false → ∃ W : Nat → Nat → Hp → Prop, (∃ m, W 0 m (upd H1 D (dicO D []))) ∧ ∀ i m H, W i m H →
  (J.stop i H ∧ Q (.ref D) H) ∨ (J.go i H ∧ ∃ Nx : Hp → Prop, (∀ H', Nx H' → ∃ m', m' < m ∧ W (i + 1) m' H') ∧ ∀ x H', J.yld i H x H' → g x (wipe σ vs) H' fun σ2 H2 => wipe σ2 vs = wipe σ vs ∧ tt σ2 H2 fun b H3 =>
    if b = true then tk σ2 H3 fun y H4 => tv σ2 H4 fun z H5 => StD F D y z H5 Nx else Nx H3)
theorem dcW_core {pins : List (Addr × Obj)} {s : Shared} {σ : L2.St} {H : Hp} {Q : VK} {ek ev tg iter : Expr} {ifs : List Expr} {scope : Scope} {own : List (Str × Nat)} {pos pos' : Pos} {ti : TI} {g : TG} {tt : TT} {tkx tvx : TE} {use : Option (Value → Sem Unit)} {Qf : Value → Shared → Prop}
    (okF : CxOk F X) (hc : X.calm = true) (hN : X.N.Nodup) (I : Inv X pins σ H s) (hi : PI X tg iter ti) (ok : BlkOk X.N X.env.scope scope own)
    (hg : ∀ (s : Shared) (H : Hp) (C : Addr) (cl : List (Str × Addr)) (fps : List Addr), PG (X.blk s H scope (compEnvC scope cl C X.env) fps) tg g) (ht : ∀ (s : Shared) (H : Hp) (C : Addr) (cl : List (Str × Addr)) (fps : List Addr), PTs (X.blk s H scope (compEnvC scope cl C X.env) fps) ifs tt)
    (hk : ∀ (s : Shared) (H : Hp) (C : Addr) (cl : List (Str × Addr)) (fps : List Addr), PE (X.blk s H scope (compEnvC scope cl C X.env) fps) ek tkx)
    (he : ∀ (s : Shared) (H : Hp) (C : Addr) (cl : List (Str × Addr)) (fps : List Addr), PE (X.blk s H scope (compEnvC scope cl C X.env) fps) ev tvx) (hs : ∀ x, foldedSetIterable iter X.env x = pure x)
    (h : tDcW F ti g tt tkx tvx (own.map (·.2)) σ H Q)
    (hEnd : ∀ D C s' m H', Inv X pins σ H' s' → Q (.ref D) H' → s'.heap.Ns C m → FpOk X pins H' C → compPost (model X.prog X.w) X.A X.xe use Qf (.ref D) C (.ok .next) s') :
    wpAny (model X.prog X.w) X.A (comprehension (.DictComp ek ev [⟨tg, iter, ifs, 0⟩] scope pos) scope X.env pos' newDict false (eval iter X.env) use) Qf X.xe s := by
  have capt : ∀ y ∈ scope.names, y.2 = .free → ∃ c, X.env.cells.lookup y.1 = some c := fun y hy e => by
    rcases ok.free y hy e with k | k
    · exact I.ok.has _ (.inl k)
    · exact I.ok.has _ (.inr k)
  refine wpAny_comprehension_free (use := use) rfl hs (closure_ok capt) ok.kind (fun y hy e => by rw [ok.uniq y hy, e])
    (thn (hi.run pins s σ H _ I h) fun xv sa hx => thn hx fun itv sb h2 => ?_)
  obtain ⟨itr, fps, stn, J, Ga, e, J2, T, ta, ga, q⟩ := h2
  subst e
  refine wpAny_newObj_type (newEnv_comp ?_)
  generalize eD : sb.heap.objs.size = D
  have nD : Ga D = none := J2.hok.fresh (Nat.le_of_eq eD)
  obtain ⟨W, ⟨m0, w0⟩, step1⟩ := q D nD (by rw [← eD]; exact big_ne J2.big)
  -- the new list
  generalize es3 : ({ sb with heap := sb.heap.push { cls := .type "dict", data := .dict #[] } } : Shared) = sc
  have J3 : Inv X pins σ (upd Ga D (dicO D [])) sc := by
    rw [← es3]
    refine J2.laid (t' := sb.toks) (fun b o e => Heap.get?_push_of_some _ e) (Nat.le_of_eq eD) ?_
    rw [← eD]
    exact ⟨⟨_, Heap.get?_push_size sb.heap rfl⟩, ⟨_, Heap.get?_push_size sb.heap rfl⟩, fun h1 h2 ⟨ep, q⟩ z => ⟨ep, z _ q⟩⟩
  have e3 : sc.heap = sb.heap.push { cls := .type "dict", data := .dict #[] } := by rw [← es3]
  have lts : ∀ b ∈ fps, b < sb.heap.objs.size := fun b hb => by
    obtain ⟨o, e, _⟩ := T.obj _ _ ta b hb
    exact Heap.lt_size e
  have gb : ∀ b ∈ fps, FpOk X pins (upd Ga D (dicO D [])) b ∧ b < sc.heap.objs.size := fun b hb => by
    have hlt := lts b hb
    refine ⟨⟨?_, (ga b hb).2⟩, by rw [e3, Heap.size_push]; exact Nat.lt_succ_of_lt hlt⟩
    rw [upd_ne (by rw [← eD]; exact Nat.ne_of_lt hlt)]
    exact (ga b hb).1
  have tb : stn 0 sc.heap := T.keep _ _ _ ta fun b _ o e => by rw [e3]; exact Heap.get?_push_of_some _ e
  have J4 := block_start J3 ok hN gb
  have rgt := hg sc (upd Ga D (dicO D [])) sc.heap.objs.size (cellsFrom (sc.heap.objs.size + 1) scope.names (cloFrom X.env.cells scope.names [])) fps
  have rt := ht sc (upd Ga D (dicO D [])) sc.heap.objs.size (cellsFrom (sc.heap.objs.size + 1) scope.names (cloFrom X.env.cells scope.names [])) fps
  have rk := hk sc (upd Ga D (dicO D [])) sc.heap.objs.size (cellsFrom (sc.heap.objs.size + 1) scope.names (cloFrom X.env.cells scope.names [])) fps
  have rv := he sc (upd Ga D (dicO D [])) sc.heap.objs.size (cellsFrom (sc.heap.objs.size + 1) scope.names (cloFrom X.env.cells scope.names [])) fps
  show codeAny _ _ (.compStart (.DictComp ek ev [⟨tg, iter, ifs, 0⟩] scope pos) 0 (.ref itr) (.ref D) (compEnvC scope (cellsFrom (sc.heap.objs.size + 1) scope.names (cloFrom X.env.cells scope.names [])) sc.heap.objs.size X.env)) (compPost (model X.prog X.w) X.A X.xe use Qf (.ref D) sc.heap.objs.size) { sc with heap := pushCells (sc.heap.push { cls := .type "dict", data := .dict #[] }) scope.names }
  have nop : ∀ b ∈ fps, (upd Ga D (dicO D [])) b = none := fun b hb => (gb b hb).1.1
  generalize ec : compEnvC scope (cellsFrom (sc.heap.objs.size + 1) scope.names (cloFrom X.env.cells scope.names [])) sc.heap.objs.size X.env = ce at J4 rgt rt rk rv ⊢
  have lc : ce.locals = sc.heap.objs.size := by subst ec; rfl
  generalize eH3 : upd Ga D (dicO D []) = Gb at J3 J4 rgt rt rk rv w0 nop gb
  generalize es4 : ({ sc with heap := pushCells (sc.heap.push { cls := .type "dict", data := .dict #[] }) scope.names } : Shared) = sd at J4 ⊢
  have tc : stn 0 sd.heap := T.keep _ _ _ tb fun b _ o e => by rw [← es4]; exact pushCells_keeps _ _ _ _ (Heap.get?_push_of_some _ e)
  have stay : ∀ {σ' : L2.St} {H' : Hp} {s' : Shared}, Inv (X.blk sc Gb scope ce fps) [] σ' H' s' → (∀ b ∈ fps, H' b = none) → ∀ b ∈ fps, FpOk (X.blk sc Gb scope ce fps) [] H' b := fun {σ' H' s'} I' hn b hb =>
    ⟨hn b hb, (I'.ok.exf b hb).1, I'.ok.exfs b hb, .inl hb, fun x c e => (I'.ok.exf b hb).2 x c e, fun p hp => absurd (show p ∈ ([] : List (Addr × Obj)) ++ [] from hp) (by simp)⟩
  have run : codeAny (model X.prog X.w) X.A (.compLoop (.DictComp ek ev [⟨tg, iter, ifs, 0⟩] scope pos) 0 (.ref itr) (.ref D) ce) (compPost (model X.prog X.w) X.A X.xe use Qf (.ref D) sc.heap.objs.size) sd := by
    refine compLoop_anyD (fun n s' => ∃ i H', Inv (X.blk sc Gb scope ce fps) [] (wipe σ (own.map (·.2))) H' s' ∧ stn i s'.heap ∧ (∀ b ∈ fps, H' b = none) ∧ W i n H') ?_ m0 ⟨0, Gb, J4, tc, nop, w0⟩
    rintro n se ⟨i, Gc, J5, td5, n5, w5⟩
    rcases step1 i n Gc w5 with ⟨stop, qe⟩ | ⟨go, Nx, hNx, nxt1⟩
    · have td := T.done (X.blk sc Gb scope ce fps) rfl rfl rfl hc i [] se _ Gc (fun _ _ => False) J5 (stay J5 n5) td5 stop
      refine thnF td fun r sf ⟨hr, J6⟩ => ?_
      subst hr
      -- back in the def's context
      have J7 : Inv X pins σ Gc sf := J3.call' (ch := fps) J6.os J6.base J6.hok J6.bare fun b hb => ⟨(gb b hb).1.2.2.2.1, (gb b hb).1.2.1, (gb b hb).1.2.2.2.2.1, (gb b hb).1.2.2.2.2.2⟩
      have nC : Gc sc.heap.objs.size = none := by
        have z : Gc ce.locals = none := J6.free
        rw [lc] at z
        exact z
      obtain ⟨m, hn, _⟩ := J6.loc
      have hn : sf.heap.Ns ce.locals m := hn
      rw [lc] at hn
      exact hEnd D sc.heap.objs.size sf m Gc J7 qe hn (J3.fpOk (Nat.le_refl _) nC)
    · have ti := T.item (X.blk sc Gb scope ce fps) rfl rfl rfl hc i [] se _ Gc (fun _ _ => False) J5 (stay J5 n5) td5 go
      refine thnF ti fun r sf ⟨u, hr, h6⟩ => ?_
      subst hr
      refine thnF h6 fun _ sg ⟨x, Gd, J7, r7, y7, te, n7⟩ => ?_
      have J7' := J7.pinned (stay J7 n7) (T.obj _ _ te)
      refine thnF (rgt.run _ sg _ Gd x u _ J7' r7 (nxt1 x Gd y7)) fun _ sh ⟨σ8, Ge, J8, hw8, q8⟩ => ?_
      refine thnF (rt.run _ sh σ8 Ge _ J8 q8) fun b si ⟨Gf, J9, q9⟩ => ?_
      -- the turn's end
      have back : ∀ {s' : Shared} {H' : Hp}, Inv (X.blk sc Gb scope ce fps) ([] ++ pinsAt fps sg.heap) σ8 H' s' → Nx H' → ∃ m, m < n ∧ ∃ i H', Inv (X.blk sc Gb scope ce fps) [] (wipe σ (own.map (·.2))) H' s' ∧ stn i s'.heap ∧ (∀ b ∈ fps, H' b = none) ∧ W i m H' := fun {s' H'} I' nx => by
        obtain ⟨m', hm, w'⟩ := hNx H' nx
        have pin' : ∀ b ∈ fps, ∀ o, sg.heap.get? b = some o → s'.heap.get? b = some o ∧ H' b = none := fun b hb o e =>
          let z := I'.pin (b, o) (List.mem_append_right _ (List.mem_append_right _ (mem_pinsAt hb e)))
          ⟨z.1, z.2.1⟩
        have hl : (wipe σ (own.map (·.2))).length = σ8.length := by rw [← hw8, wipe_length]
        refine ⟨m', hm, i + 1, H', (I'.unpinned (pins := [])).weak hl (fun j v e => ?_), T.keep _ _ _ te fun b hb o e => (pin' b hb o e).1, fun b hb => ?_, w'⟩
        · rw [← hw8] at e
          exact (wipe_some e).1
        · obtain ⟨o, e, _⟩ := T.obj _ _ te b hb
          exact (pin' b hb o e).2
      cases b with
      | false =>
        simp only [Bool.false_eq_true, if_false] at q9 ⊢
        exact back J9 q9
      | true =>
        simp only [if_true] at q9 ⊢
        refine thnF (rk.run _ si σ8 Gf _ J9 q9) fun z sj ⟨yk, Gg, J10, r10, q10⟩ => ?_
        refine thnF (rv.run _ sj σ8 Gg _ J10 q10) fun z2 sk ⟨yv, Gh, J11, r11, st⟩ => ?_
        exact dset_ok (X := X.blk sc Gb scope ce fps) ⟨okF.k, okF.w, okF.un⟩ J11 r10 r11 st fun sl Gi J12 nx => back J12 nx
  exact codeAny_compStart_dict run (T.self X.A 0 _ _ _ tc run)

/-! ### an object of our own, written -/
theorem tab_ownM {H : Hp} {D : Addr} {o u : HO} (h : H D = some o) (m : Mut (some o)) (nc : ∀ q, o ≠ LamX.CodeO D q) (b : Addr) (q : Bool) (t : TQ H b q) : TQ (upd H D u) b q := t.upd h m nc
theorem ExtB.ownM {ρ : List Addr} {H : Hp} {D : Addr} {o u : HO} (h : H D = some o) (m : Mut (some o)) (nc : ∀ q, o ≠ LamX.CodeO D q) : ExtB ρ H ρ (upd H D u) where
  pre := ⟨[], by simp⟩
  tup := fun b xs e => by rw [upd_ne (fun z => by rw [z, h] at e; cases e; exact m)]; exact e
  frz := fun b o u e => by rw [upd_ne (fun z => by rw [z, h] at e; cases e; exact m)]; exact e
  xd := fun b fs e => by rw [upd_ne (fun z => by rw [z, h] at e; cases e; exact m)]; exact e
  tb := fun b q t => tab_ownM h m nc b q t
  tr := fun b e => by
    by_cases q : b = D
    · rw [q, upd_same]; exact fun z => nomatch z
    · rw [upd_ne q]; exact e
theorem Ext.ownM {ρ1 ρ : List Addr} {H1 H : Hp} {D : Addr} {o u : HO} (x : Ext ρ1 H1 ρ H) (h1 : H1 D = none) (h : H D = some o) (m : Mut (some o)) (nc : ∀ q, o ≠ LamX.CodeO D q) : Ext ρ1 H1 ρ (upd H D u) where
  pre := x.pre
  nw := x.nw
  tup := fun b xs e => by rw [upd_ne (fun z => by rw [z, h1] at e; cases e)]; exact x.tup b xs e
  frz := fun b o u e => by rw [upd_ne (fun z => by rw [z, h1] at e; cases e)]; exact x.frz b o u e
  xd := fun b fs e => by rw [upd_ne (fun z => by rw [z, h1] at e; cases e)]; exact x.xd b fs e
  tb := fun b q t => tab_ownM h m nc b q (x.tb b q t)
  tr := fun b e => by rw [upd_ne (fun z => by rw [z, h1] at e; exact e rfl)]; exact x.tr b e
  fr := fun b o n m' e => by rw [upd_ne (fun z => by rw [z, h1] at e; cases e)]; exact x.fr b o n m' e
theorem RelS.ownM {ρ : List Addr} {H : Hp} {M : Store} {D : Addr} {o u : HO} (r : RelS F ρ H M) (n : D ∉ ρ) (h : H D = some o) (m : Mut (some o)) (nc : ∀ q, o ≠ LamX.CodeO D q) : RelS F ρ (upd H D u) M :=
  r.keepB (ExtB.ownM h m nc) fun a u ha q => by rw [upd_ne (fun z => n (by rw [← z]; exact ha))]; exact q
/-- an object of our own comes into the store -/
theorem push_own {ρ1 ρ' : List Addr} {H1 H' : Hp} {M : Store} {D : Addr} {ob : MObj} (x' : Ext ρ1 H1 ρ' H') (hD : H1 D = none) (s' : RelS F ρ' H' M) (nD : D ∉ ρ') (q : ObR F (ρ' ++ [D]) H' D ob) : Ext ρ1 H1 (ρ' ++ [D]) H' ∧ RelS F (ρ' ++ [D]) H' (M ++ [ob]) ∧ Rp F (ρ' ++ [D]) H' (.ref M.length) (.ref D) := by
  have xb : ExtB ρ' H' (ρ' ++ [D]) H' := ⟨⟨[D], rfl⟩, fun _ _ h => h, fun _ _ _ h => h, fun _ _ h => h, fun _ _ h => h, fun _ h => h⟩
  refine ⟨?_, ⟨by simp [s'.len], ?_, fun l o a h1 h2 => ?_, s'.tab⟩, D, ?_, rfl⟩
  · exact {
      pre := let ⟨t, e⟩ := x'.pre; ⟨t ++ [D], by rw [e, List.append_assoc]⟩
      nw := fun b hb n => by
        rcases List.mem_append.mp hb with z | z
        · exact x'.nw b z n
        · have : b = D := by simpa using z
          rw [this]; exact hD
      tup := x'.tup
      frz := x'.frz
      xd := x'.xd
      tb := x'.tb
      tr := x'.tr
      fr := fun b o n => x'.fr b o fun z => n (List.mem_append_left _ z) }
  · rw [List.nodup_append]
    refine ⟨s'.nd, by simp, fun a ha b hb z => ?_⟩
    have : b = D := by simpa using hb
    subst this z
    exact nD ha
  · by_cases hl : l < M.length
    · rw [List.getElem?_append_left hl] at h1
      rw [List.getElem?_append_left (by rw [s'.len]; exact hl)] at h2
      exact (s'.ob l o a h1 h2).keepB xb fun _ q => q
    · have el : l = M.length := by
        have := (List.getElem?_eq_some_iff.mp h1).1
        simp at this; omega
      subst el
      simp at h1
      rw [← s'.len] at h2
      simp at h2
      subst h1 h2
      exact q
  · rw [← s'.len]; simp
/-- a dict of our own is handed back -/
theorem give_dic {ρ1 ρ' : List Addr} {H1 H' : Hp} {M : Store} {D : Addr} {fz : Bool} {es : List W} {ds : List DictEntry} {E : XK} {Q : VK} (q : oK F (Rp F) E Q ρ1 H1 (mkD fz es M)) (x' : Ext ρ1 H1 ρ' H') (hD : H1 D = none) (s' : RelS F ρ' H' M) (nD : D ∉ ρ') (hs : (D == sysModules) = false) (hd : H' D = some (dicO D ds)) (kd : KDist es) (re : RpE F ρ' H' es ds) : lk Q (.ref D) H' := by
  unfold mkD at q
  split at q
  · rename_i hz
    have hz := lenOk_le hz
    split at q
    · refine .inr ⟨D, dicO D ds, hd, True.intro, fun od => ?_⟩
      have xo := Ext.ownM (u := .frz od (dicO D ds)) x' hD hd True.intro (fun q => code_dic)
      exact q ρ' (.ref D) _ xo (s'.ownM nD hd True.intro (fun q => code_dic)) ⟨D, ds, rfl, hs, .inl ⟨od, upd_same⟩, hz, kd, RpE.monoB (ExtB.ownM hd True.intro (fun q => code_dic)) _ _ re⟩
    · have xb : ExtB ρ' H' (ρ' ++ [D]) H' := ⟨⟨[D], rfl⟩, fun _ _ h => h, fun _ _ _ h => h, fun _ _ h => h, fun _ _ h => h, fun _ h => h⟩
      obtain ⟨x2, s2, r2⟩ := push_own (ob := .dic es) x' hD s' nD ⟨ds, hs, hd, hz, kd, RpE.monoB xb _ _ re⟩
      exact .inl (q (ρ' ++ [D]) (.ref D) H' x2 s2 r2)
  · exact q.elim
theorem putAll_len : ∀ {kvs es es' : List W}, putAll es kvs = some es' → es.length ≤ es'.length
  | [], es, es', h => by cases h; exact Nat.le_refl _
  | e :: r, es, es', h => by
    cases e with
    | kv k v =>
      unfold putAll at h
      split at h
      · rename_i acc e2
        have h1 := putAll_len h
        unfold putK at e2
        split at e2
        · cases e2
          exact Nat.le_trans (putE_len ..).1 h1
        · cases e2
      · cases h
    | _ => cases h
/-- what an item makes -/
def itemDc (vs : List Nat) (g : W → Sg → Store → Option Sg) (fq : Sg → Store → Out Bool) (fk fv : FE) (σ : Sg) : W → Store → Out (List W) := fun x M2 => match g x (wipeW σ vs) M2 with
  | some σ1 => (calmO (fq σ1 M2)).bind fun k M3 => match k with
    | true => (calmO (fk σ1 M3)).bind fun w M4 => (calmO (fv σ1 M4)).bind fun u M5 => .ok [.kv w u] M5
    | false => .ok [] M3
  | none => .fail
def endDc (fz : Bool) (es : List W) : List W → Store → Out W := fun kvs M2 => match putAll es kvs with
  | some es' => mkD fz es' M2
  | none => .fail
theorem dc_step {k : W → Store → Out (List W)} {fz : Bool} {x : W} {r es ws1 : List W} {M M1 : Store} (e : k x M = .ok ws1 M1) :
    (flatL k (x :: r) M).bind (endDc fz es) = (flatL k r M1).bind fun ws M2 => endDc fz es (ws1 ++ ws) M2 := by
  rw [flatL_cons, e]
  cases e2 : flatL k r M1 with
  | ok ws' M2 => simp only [Out.bind, e2]
  | exc _ _ _ => simp only [Out.bind, e2]
  | fail => simp only [Out.bind, e2]
theorem endDc_cons {fz : Bool} {es : List W} {k v : W} : (fun (ws : List W) M2 => endDc fz es ([.kv k v] ++ ws) M2) = match putK es k v with | some es1 => endDc fz es1 | none => fun _ _ => .fail := by
  funext ws M2
  show (match (match putK es k v with | some acc' => putAll acc' ws | none => none) with | some es' => mkD fz es' M2 | none => .fail) = _
  cases putK es k v <;> rfl
theorem dc_calm {vs : List Nat} {g : W → Sg → Store → Option Sg} {fq : Sg → Store → Out Bool} {fk fv : FE} {σ : Sg} (x : W) (M : Store) : Calm (itemDc vs g fq fk fv σ x M) := by
  intro c es M' h
  unfold itemDc at h
  split at h
  · rename_i σ1 _
    cases e : fq σ1 M with
    | ok k M3 =>
      rw [e] at h
      cases k with
      | true =>
        cases e2 : fk σ1 M3 with
        | ok w M4 =>
          cases e3 : fv σ1 M4 with
          | ok u M5 => simp only [calmO, Out.bind, e2, e3] at h; cases h
          | exc _ _ _ => simp only [calmO, Out.bind, e2, e3] at h; cases h
          | fail => simp only [calmO, Out.bind, e2, e3] at h; cases h
        | exc _ _ _ => simp only [calmO, Out.bind, e2] at h; cases h
        | fail => simp only [calmO, Out.bind, e2] at h; cases h
      | false => simp only [calmO, Out.bind] at h; cases h
    | exc _ _ _ => rw [e] at h; cases h
    | fail => rw [e] at h; cases h
  · cases h
theorem dc_len {k : W → Store → Out (List W)} {fz : Bool} {r es : List W} {M : Store} {E : XK} {Q : VK} {ρ : List Addr} {H : Hp} (hk : ∀ x M, Calm (k x M)) (q : oK F (Rp F) E Q ρ H ((flatL k r M).bind (endDc fz es))) : es.length ≤ sizeLine := by
  cases e : flatL k r M with
  | ok ws M2 =>
    rw [e] at q
    have q : oK F (Rp F) E Q ρ H (endDc fz es ws M2) := q
    unfold endDc at q
    split at q
    · rename_i es' e2
      unfold mkD at q
      cases z : lenOk es'.length with
      | true => exact Nat.le_trans (putAll_len e2) (lenOk_le z)
      | false => rw [z] at q; exact q.elim
    · exact q.elim
  | exc c es M2 => exact absurd e (flatL_calm hk r M c es M2)
  | fail => rw [e] at q; exact q.elim
theorem dc_read {own : List (Str × Nat)} {fi : FI} {is : List Nat} {g : W → Sg → Store → Option Sg} {fq : Sg → Store → Out Bool} {fk fv : FE} {fz : Bool} (his : ∀ i ∈ is, i ∈ own.map (·.2)) {τ : L2.St} {H : Hp} {Q : VK}
    (q : tE F Wx (fun σ M => (fi σ M).bind fun xs M1 => (flatL (itemDc (own.map (·.2)) g fq fk fv σ) xs M1).bind (endDc fz [])) τ H Q) : tDcW F (tI F Wx fi) (tGW F is g) (tQ F WN fq) (tE F WN fk) (tE F WN fv) (own.map (·.2)) τ H (lk Q) := by
  obtain ⟨ρ, σ, M, rs, rg, q⟩ := q
  refine ⟨ρ, σ, M, rs, rg, ?_⟩
  dsimp only at q
  cases e : fi σ M with
  | exc c es M1 => rw [e] at q; exact q
  | fail => rw [e] at q; exact q
  | ok xs M1 =>
    rw [e] at q
    intro ρ1 J H1 x1 s1 r1 D hD hs
    have q1 := oK.mono (show oK F (Rp F) _ Q ρ H ((flatL (itemDc (own.map (·.2)) g fq fk fv σ) xs M1).bind (endDc fz [])) from q) x1
    refine ⟨fun i m H' => m = xs.length - i ∧ i ≤ xs.length ∧ ∃ ρ' M' es ds, Ext ρ1 H1 ρ' H' ∧ RelS F ρ' H' M' ∧ D ∉ ρ' ∧ H' D = some (dicO D ds) ∧ KDist es ∧ RpE F ρ' H' es ds ∧ oK F (Rp F) (fun c d H' => Wx c d τ H') Q ρ1 H1 ((flatL (itemDc (own.map (·.2)) g fq fk fv σ) (xs.drop i) M').bind (endDc fz es)),
      ⟨xs.length, by simp, Nat.zero_le _, ρ1, M1, [], [], Ext.upd0 hD, s1.upd0 hD, s1.fresh hD, upd_same, True.intro, rfl, q1⟩, ?_⟩
    rintro i m H' ⟨rfl, hi, ρ', M', es, ds, x', s', nD, hDl, kd, ra, q'⟩
    by_cases hlt : i < xs.length
    · have hx : xs[i]? = some xs[i] := List.getElem?_eq_getElem hlt
      obtain ⟨go, yl⟩ := (r1 ρ' H' x'.toExtB).2 i xs[i] hx
      refine .inr ⟨go, fun H2 => ∃ ρ' M' es ds, Ext ρ1 H1 ρ' H2 ∧ RelS F ρ' H2 M' ∧ D ∉ ρ' ∧ H2 D = some (dicO D ds) ∧ KDist es ∧ RpE F ρ' H2 es ds ∧ oK F (Rp F) (fun c d H' => Wx c d τ H') Q ρ1 H1 ((flatL (itemDc (own.map (·.2)) g fq fk fv σ) (xs.drop (i + 1)) M').bind (endDc fz es)),
        fun H2 h => ⟨xs.length - (i + 1), by omega, rfl, hlt, h⟩, fun v H2 y => ?_⟩
      obtain ⟨x2, s2, r2⟩ := yl v H2 y
      rw [List.drop_eq_getElem_cons hlt] at q'
      cases eg : g xs[i] (wipeW σ (own.map (·.2))) M' with
      | none =>
        exfalso
        have : itemDc (own.map (·.2)) g fq fk fv σ xs[i] M' = .fail := by unfold itemDc; rw [eg]
        rw [flatL_cons, this] at q'
        exact q'
      | some σ1 =>
        refine ⟨ρ', _, M', xs[i], s2 M' s', wipe_rel ((rg.mono x1).mono (x'.trans x2)) _, r2, σ1, eg, fun τ1 g1 t1 => ⟨(Touch.wipe t1 his).trans (wipe_wipe τ _), ρ', σ1, M', s2 M' s', g1, ?_⟩⟩
        have hD2 : H2 D = some (dicO D ds) := x2.fr D _ nD True.intro hDl
        cases eq : fq σ1 M' with
        | exc c es M3 =>
          exfalso
          have : itemDc (own.map (·.2)) g fq fk fv σ xs[i] M' = .fail := by unfold itemDc; rw [eg]; dsimp only; rw [eq]; rfl
          rw [flatL_cons, this] at q'
          exact q'
        | fail =>
          exfalso
          have : itemDc (own.map (·.2)) g fq fk fv σ xs[i] M' = .fail := by unfold itemDc; rw [eg]; dsimp only; rw [eq]; rfl
          rw [flatL_cons, this] at q'
          exact q'
        | ok k M3 =>
          intro ρ3 b H3 x3 s3 rb
          cases (show k = b from rb)
          have nD3 : D ∉ ρ3 := fun z => by
            have := x3.nw D z nD
            rw [hD2] at this; cases this
          have hD3 : H3 D = some (dicO D ds) := x3.fr D _ nD3 True.intro hD2
          cases k with
          | false =>
            rw [if_neg Bool.false_ne_true]
            have e1 : itemDc (own.map (·.2)) g fq fk fv σ xs[i] M' = .ok [] M3 := by unfold itemDc; rw [eg]; dsimp only; rw [eq]; rfl
            rw [dc_step e1] at q'
            exact ⟨ρ3, M3, es, ds, (x'.trans x2).trans x3, s3, nD3, hD3, kd, RpE.mono (x2.trans x3) _ _ ra, q'⟩
          | true =>
            rw [if_pos rfl]
            refine ⟨ρ3, σ1, M3, s3, g1.mono x3, ?_⟩
            have bad : itemDc (own.map (·.2)) g fq fk fv σ xs[i] M' = .fail → False := fun h => by
              rw [flatL_cons, h] at q'
              exact q'
            cases ee : fk σ1 M3 with
            | exc c es M4 => exact (bad (by unfold itemDc; rw [eg]; dsimp only; rw [eq]; show (calmO (fk σ1 M3)).bind _ = _; rw [ee]; rfl)).elim
            | fail => exact bad (by unfold itemDc; rw [eg]; dsimp only; rw [eq]; show (calmO (fk σ1 M3)).bind _ = _; rw [ee]; rfl)
            | ok w M4 =>
              intro ρ4 yv H4 x4 s4 r4
              have nD4 : D ∉ ρ4 := fun z => by
                have := x4.nw D z nD3
                rw [hD3] at this; cases this
              have hD4 : H4 D = some (dicO D ds) := x4.fr D _ nD4 True.intro hD3
              refine ⟨ρ4, σ1, M4, s4, (g1.mono x3).mono x4, ?_⟩
              cases e5 : fv σ1 M4 with
              | exc c es M5 => exact (bad (by unfold itemDc; rw [eg]; dsimp only; rw [eq]; show (calmO (fk σ1 M3)).bind _ = _; rw [ee]; show (calmO (fv σ1 M4)).bind _ = _; rw [e5]; rfl)).elim
              | fail => exact bad (by unfold itemDc; rw [eg]; dsimp only; rw [eq]; show (calmO (fk σ1 M3)).bind _ = _; rw [ee]; show (calmO (fv σ1 M4)).bind _ = _; rw [e5]; rfl)
              | ok u M5 =>
                intro ρ5 zv H5 x5 s5 r5
                have nD5 : D ∉ ρ5 := fun z => by
                  have := x5.nw D z nD4
                  rw [hD4] at this; cases this
                have hD5 : H5 D = some (dicO D ds) := x5.fr D _ nD5 True.intro hD4
                have e1 : itemDc (own.map (·.2)) g fq fk fv σ xs[i] M' = .ok [.kv w u] M5 := by unfold itemDc; rw [eg]; dsimp only; rw [eq]; show (calmO (fk σ1 M3)).bind _ = _; rw [ee]; show (calmO (fv σ1 M4)).bind _ = _; rw [e5]; rfl
                rw [dc_step e1, endDc_cons] at q'
                have ra5 := RpE.mono (((x2.trans x3).trans x4).trans x5) _ _ ra
                have xx := (((x'.trans x2).trans x3).trans x4).trans x5
                cases ep : putK es w u with
                | none =>
                  rw [ep] at q'
                  exfalso
                  cases e6 : flatL (itemDc (own.map (·.2)) g fq fk fv σ) (xs.drop (i + 1)) M5 with
                  | ok ws M6 => rw [e6] at q'; exact q'
                  | exc c es M6 => exact flatL_calm (fun x M => dc_calm x M) _ _ c es M6 e6
                  | fail => rw [e6] at q'; exact q'
                | some es1 =>
                  rw [ep] at q'
                  dsimp only at q'
                  unfold putK at ep
                  cases ka : keyOk 8 w with
                  | false => rw [ka] at ep; cases ep
                  | true =>
                    rw [ka] at ep
                    cases ep
                    have hz := dc_len (fun x M => dc_calm x M) q'
                    refine ⟨ρ5, w, u, es, ds, hD5, Rp.mono x5 _ _ r4, r5, ka, ra5, kd, Nat.le_trans (putE_len ..).1 hz, fun ds' re => ?_⟩
                    exact ⟨ρ5, M5, putE w u es, ds', Ext.ownM xx hD hD5 True.intro (fun q => code_dic), s5.ownM nD5 hD5 True.intro (fun q => code_dic), nD5, upd_same, putE_dist ka kd, RpE.monoB (ExtB.ownM hD5 True.intro (fun q => code_dic)) _ _ re, q'⟩
    · have ei : i = xs.length := by omega
      subst ei
      refine .inl ⟨(r1 ρ' H' x'.toExtB).1, ?_⟩
      rw [List.drop_length] at q'
      have q' : oK F (Rp F) (fun c d H' => Wx c d τ H') Q ρ1 H1 (mkD fz es M') := q'
      exact give_dic q' x' hD s' nD hs hDl kd ra

/-! ### the rules -/
section
variable {kx vx tg iter : Expr} {ifs : List Expr} {scope : Scope} {own : List (Str × Nat)} {pos : Pos} {fi : FI} {is : List Nat} {g : W → Sg → Store → Option Sg} {fq : Sg → Store → Out Bool} {fk fv : FE} {fz : Bool}
theorem pe_dcW {ti : TI} {g : TG} {tt : TT} {tkx tvx : TE} (okF : CxOk F X) (hc : X.calm = true) (hN : X.N.Nodup) (hi : PI X tg iter ti) (ok : BlkOk X.N X.env.scope scope own)
    (hg : ∀ (s : Shared) (H : Hp) (C : Addr) (cl : List (Str × Addr)) (fp : List Addr), PG (X.blk s H scope (compEnvC scope cl C X.env) fp) tg g) (ht : ∀ (s : Shared) (H : Hp) (C : Addr) (cl : List (Str × Addr)) (fp : List Addr), PTs (X.blk s H scope (compEnvC scope cl C X.env) fp) ifs tt)
    (hk : ∀ (s : Shared) (H : Hp) (C : Addr) (cl : List (Str × Addr)) (fp : List Addr), PE (X.blk s H scope (compEnvC scope cl C X.env) fp) kx tkx)
    (he : ∀ (s : Shared) (H : Hp) (C : Addr) (cl : List (Str × Addr)) (fp : List Addr), PE (X.blk s H scope (compEnvC scope cl C X.env) fp) vx tvx) (hs : ∀ x, foldedSetIterable iter X.env x = pure x) :
    PE X (.DictComp kx vx [⟨tg, iter, ifs, 0⟩] scope pos) (tDcW F ti g tt tkx tvx (own.map (·.2))) := by
  refine ⟨fun pins s τ H Q I h => ?_⟩
  rw [arm_eval_DictComp]
  refine dcW_core okF hc hN I hi ok hg ht hk he hs h fun D C s' m H' I' q hn ⟨f0, f1, f2, f3, f4, f5⟩ => ⟨m, hn, fun h'' sb => ?_⟩
  exact ⟨.ref D, H', I'.turned (t' := s'.toks) (fun b o hb e => (sb.2 b hb).trans e) f0 f1 f3 f4 f5, rfl, q⟩
theorem e_dc (okF : CxOk F X) (hc : X.calm = true) (hN : X.N.Nodup) (hi : PI X tg iter (tI F Wx fi)) (ok : BlkOk X.N X.env.scope scope own) (his : ∀ i ∈ is, i ∈ own.map (·.2))
    (hg : ∀ (s : Shared) (H : Hp) (C : Addr) (cl : List (Str × Addr)) (fp : List Addr), PG (X.blk s H scope (compEnvC scope cl C X.env) fp) tg (tGW F is g)) (ht : ∀ (s : Shared) (H : Hp) (C : Addr) (cl : List (Str × Addr)) (fp : List Addr), PTs (X.blk s H scope (compEnvC scope cl C X.env) fp) ifs (tQ F WN fq))
    (hk : ∀ (s : Shared) (H : Hp) (C : Addr) (cl : List (Str × Addr)) (fp : List Addr), PE (X.blk s H scope (compEnvC scope cl C X.env) fp) kx (tE F WN fk))
    (he : ∀ (s : Shared) (H : Hp) (C : Addr) (cl : List (Str × Addr)) (fp : List Addr), PE (X.blk s H scope (compEnvC scope cl C X.env) fp) vx (tE F WN fv)) (hs : ∀ x, foldedSetIterable iter X.env x = pure x) :
    PE X (.DictComp kx vx [⟨tg, iter, ifs, 0⟩] scope pos) (tE F Wx fun σ M => (fi σ M).bind fun xs M1 => (flatL (itemDc (own.map (·.2)) g fq fk fv σ) xs M1).bind (endDc fz [])) :=
  PE.weak (PE.lockV (pe_dcW okF hc hN hi ok hg ht hk he hs)) fun τ H Q q => dc_read his q
theorem s_setDc {i : Nat} {y : Str} {py spos : Pos} (okF : CxOk F X) (hc : X.calm = true) (hN : X.N.Nodup) (hy : X.N[i]? = some y) (hyl : X.env.scope.names.lookup y = some .local)
    (hsw : swapsWith (.DictComp kx vx [⟨tg, iter, ifs, 0⟩] scope pos) (some (.Name y py)) spos.line X.env = pure true) (hi : PI X tg iter (tI F Wx fi)) (ok : BlkOk X.N X.env.scope scope own) (his : ∀ i ∈ is, i ∈ own.map (·.2))
    (hg : ∀ (s : Shared) (H : Hp) (C : Addr) (cl : List (Str × Addr)) (fp : List Addr), PG (X.blk s H scope (compEnvC scope cl C X.env) fp) tg (tGW F is g)) (ht : ∀ (s : Shared) (H : Hp) (C : Addr) (cl : List (Str × Addr)) (fp : List Addr), PTs (X.blk s H scope (compEnvC scope cl C X.env) fp) ifs (tQ F WN fq))
    (hk : ∀ (s : Shared) (H : Hp) (C : Addr) (cl : List (Str × Addr)) (fp : List Addr), PE (X.blk s H scope (compEnvC scope cl C X.env) fp) kx (tE F WN fk))
    (he : ∀ (s : Shared) (H : Hp) (C : Addr) (cl : List (Str × Addr)) (fp : List Addr), PE (X.blk s H scope (compEnvC scope cl C X.env) fp) vx (tE F WN fv)) (hs : ∀ x, foldedSetIterable iter X.env x = pure x) :
    PS X (.Assign [.Name y py] (.DictComp kx vx [⟨tg, iter, ifs, 0⟩] scope pos) spos) (tS F Wx fun σ M => ((fi σ M).bind fun xs M1 => (flatL (itemDc (own.map (·.2)) g fq fk fv σ) xs M1).bind (endDc fz [])).st σ fun w M1 => .next (σ.set i (some w)) M1) := by
  have ps : PS X (.Assign [.Name y py] (.DictComp kx vx [⟨tg, iter, ifs, 0⟩] scope pos) spos) (tAsg (tDcW F (tI F Wx fi) (tGW F is g) (tQ F WN fq) (tE F WN fk) (tE F WN fv) (own.map (·.2))) (gName i)) := by
    refine ⟨fun pins s τ H D I h => ?_⟩
    rw [exec_Assign_Name_used _ _ _ _ hsw]
    refine wpAny_bind (wpAny_standAt (wpAny_bind ?_))
    show wpAny _ X.A (do let _ ← comprehension (.DictComp kx vx [⟨tg, iter, ifs, 0⟩] scope pos) scope X.env (firstIterPos [⟨tg, iter, ifs, 0⟩] pos) newDict false (eval iter X.env) (some (assign (.Name y py) X.env))) _ _ s
    have h : tDcW F (tI F Wx fi) (tGW F is g) (tQ F WN fq) (tE F WN fk) (tE F WN fv) (own.map (·.2)) τ H (fun x H1 => gName i x τ H1 D.nx) := h
    refine wpAny_bind (thn (dcW_core (Qf := fun _ s' => SP X pins D .next s') okF hc hN I hi ok hg ht hk he hs h fun L C s' m H' I' q hn f => ?_) fun _ s' hq => wpAny_pure (wpAny_pure hq))
    show wpAny _ _ (assign (.Name y py) X.env (.ref L)) _ _ _
    refine wpAny_assign_Name (store_ok2 (v := V.ref L) I' hN hy (.inl hyl) rfl (fun s2 I2 ⟨a, sb, ha⟩ => ?_) (.inr hyl))
    obtain ⟨f0, f1, f2, f3, f4, f5⟩ := f
    have haC : C ≠ a := by
      rcases ha with z | z
      · rw [z]; exact f1
      · exact fun e => f4 y a z e.symm
    refine ⟨m, hn.sameBut sb haC, fun h3 sb3 => ?_⟩
    exact ⟨_, H', I2.turned (t' := s2.toks) (fun b o hb e => (sb3.2 b hb).trans e) f0 f1 f3 f4 f5, q⟩
  refine PS.weak (PS.lockN ps) fun D τ H ⟨ρ, σ, M, rs, rg, q⟩ => ?_
  show tDcW F _ _ _ _ _ _ τ H (fun x H1 => lkS D.nx (τ.set i (some x)) H1)
  refine dc_read (fz := fz) (Q := fun x H1 => D.nx (τ.set i (some x)) H1) his ⟨ρ, σ, M, rs, rg, ?_⟩
  exact oK_st rg q fun w M1 _ ρ1 v H1 x s r q1 => q1 ρ1 H1 _ Ext.refl s ((rg.mono x).set r)
end
end
end Mp
set_option Elab.async false
set_option linter.all false
set_option maxRecDepth 100000
set_option maxHeartbeats 4000000
namespace Mp
open PySem PySem.Spec PyProof.Rows L2 SeqAt
section
variable {F : Fx} {Wx : WX} {X : Cx}
def yesQ : Sg → Store → Out Bool := fun _ M => .ok true M
theorem RelG.monoB {ρ ρ' : List Addr} {H H' : Hp} {σ : Sg} {τ : L2.St} (g : RelG F ρ H σ τ) (a : ExtB ρ H ρ' H') : RelG F ρ' H' σ τ :=
  ⟨g.len, fun i w e => let ⟨v, e1, r⟩ := g.at_ i w e; ⟨v, e1, RpA.monoB a w v r⟩⟩
/-- no test -/
theorem pts_yes : PTs X [] (tQ F Wx yesQ) := ⟨fun pins s τ H Q I ⟨ρ, σ, M, rs, rg, q⟩ => pts_nil.run pins s τ H Q I (q ρ true H Ext.refl rs rfl)⟩
/-- what an item of the outer for makes -/
def itemL2 (vs vs1 : List Nat) (g : W → Sg → Store → Option Sg) (fi1 : FI) (g1 : W → Sg → Store → Option Sg) (fe : FE) (σ : Sg) : W → Store → Out (List W) := fun x M2 => match g x (wipeW σ vs) M2 with
  | some σ1 => (calmO (fi1 σ1 M2)).bind fun ys M3 => flatL (itemLc vs1 g1 yesQ fe σ1) ys M3
  | none => .fail
theorem l2_calm {vs vs1 : List Nat} {g : W → Sg → Store → Option Sg} {fi1 : FI} {g1 : W → Sg → Store → Option Sg} {fe : FE} {σ : Sg} (x : W) (M : Store) : Calm (itemL2 vs vs1 g fi1 g1 fe σ x M) := by
  intro c es M' h
  unfold itemL2 at h
  split at h
  · rename_i σ1 _
    cases e : fi1 σ1 M with
    | ok ys M3 =>
      rw [e] at h
      exact flatL_calm (fun x M => item_calm x M) ys M3 c es M' h
    | exc _ _ _ => rw [e] at h; cases h
    | fail => rw [e] at h; cases h
  · cases h
/-- what is left, seen from within -/
def restL2 (fz : Bool) (k k2 : W → Store → Out (List W)) (ys xs acc : List W) (M : Store) : Out W := (flatL k ys M).bind fun ws Ma => (flatL k2 xs Ma).bind fun ws' M2 => mkL fz (acc ++ (ws ++ ws')) M2
theorem rest_open {fz : Bool} {k k2 : W → Store → Out (List W)} {x : W} {ys xs acc : List W} {M M3 : Store} (e : k2 x M = flatL k ys M3) : ((flatL k2 (x :: xs) M).bind fun ws M2 => mkL fz (acc ++ ws) M2) = restL2 fz k k2 ys xs acc M3 := by
  rw [flatL_cons, e]
  unfold restL2
  cases e1 : flatL k ys M3 with
  | ok ws Ma =>
    cases e2 : flatL k2 xs Ma with
    | ok ws' M2 => simp only [Out.bind, e2]
    | exc _ _ _ => simp only [Out.bind, e2]
    | fail => simp only [Out.bind, e2]
  | exc _ _ _ => simp only [Out.bind]
  | fail => simp only [Out.bind]
theorem rest_nil {fz : Bool} {k k2 : W → Store → Out (List W)} {xs acc : List W} {M : Store} : restL2 fz k k2 [] xs acc M = (flatL k2 xs M).bind fun ws M2 => mkL fz (acc ++ ws) M2 := rfl
theorem rest_cons {fz : Bool} {k k2 : W → Store → Out (List W)} {y : W} {ys xs acc ws1 : List W} {M M1 : Store} (e : k y M = .ok ws1 M1) : restL2 fz k k2 (y :: ys) xs acc M = restL2 fz k k2 ys xs (acc ++ ws1) M1 := by
  unfold restL2
  rw [flatL_cons, e]
  cases e1 : flatL k ys M1 with
  | ok ws Ma => simp only [Out.bind, e1, List.append_assoc]
  | exc _ _ _ => simp only [Out.bind, e1]
  | fail => simp only [Out.bind, e1]
theorem rest_fail {fz : Bool} {k k2 : W → Store → Out (List W)} {y : W} {ys xs acc : List W} {M : Store} (e : k y M = .fail) : restL2 fz k k2 (y :: ys) xs acc M = .fail := by
  unfold restL2
  rw [flatL_cons, e]
  rfl
theorem restL2_len {fz : Bool} {k k2 : W → Store → Out (List W)} {ys xs acc : List W} {M : Store} {E : XK} {Q : VK} {ρ : List Addr} {H : Hp} (hk : ∀ x M, Calm (k x M)) (hk2 : ∀ x M, Calm (k2 x M)) (q : oK F (Rp F) E Q ρ H (restL2 fz k k2 ys xs acc M)) : acc.length ≤ sizeLine := by
  unfold restL2 at q
  cases e : flatL k ys M with
  | ok ws Ma =>
    rw [e] at q
    have q : oK F (Rp F) E Q ρ H ((flatL k2 xs Ma).bind fun ws' M2 => mkL fz (acc ++ (ws ++ ws')) M2) := q
    have e3 : (fun (ws' : List W) M2 => mkL fz (acc ++ (ws ++ ws')) M2) = fun ws' M2 => mkL fz ((acc ++ ws) ++ ws') M2 := by
      funext ws' M2
      rw [List.append_assoc]
    rw [e3] at q
    have := rest_len hk2 q
    rw [List.length_append] at this
    omega
  | exc c es M2 => exact absurd e (flatL_calm hk ys M c es M2)
  | fail => rw [e] at q; exact q.elim
theorem l2_read {own : List (Str × Nat)} {vs1 : List Nat} {fi fi1 : FI} {is is1 : List Nat} {g g1 : W → Sg → Store → Option Sg} {fe : FE} {fz : Bool} (his : ∀ i ∈ is, i ∈ own.map (·.2)) (his1 : ∀ i ∈ is1, i ∈ vs1) {τ : L2.St} {H : Hp} {Q : VK}
    (q : tE F Wx (fun σ M => (fi σ M).bind fun xs M1 => (flatL (itemL2 (own.map (·.2)) vs1 g fi1 g1 fe σ) xs M1).bind (mkL fz)) τ H Q) : tLc2 (tI F Wx fi) (tGW F is g) (tQ F WN yesQ) (tI F WN fi1) (tGW F is1 g1) (tQ F WN yesQ) (tE F WN fe) (own.map (·.2)) vs1 τ H (lk Q) := by
  obtain ⟨ρ, σ, M, rs, rg, q⟩ := q
  refine ⟨ρ, σ, M, rs, rg, ?_⟩
  dsimp only at q
  cases e : fi σ M with
  | exc c es M1 => rw [e] at q; exact q
  | fail => rw [e] at q; exact q
  | ok xs M1 =>
    rw [e] at q
    intro ρ1 J H1 x1 s1 r1 D hD
    have q1 := oK.mono (show oK F (Rp F) _ Q ρ H ((flatL (itemL2 (own.map (·.2)) vs1 g fi1 g1 fe σ) xs M1).bind (mkL fz)) from q) x1
    refine ⟨fun i m H' => m = xs.length - i ∧ i ≤ xs.length ∧ ∃ ρ' M' acc accv, Ext ρ1 H1 ρ' H' ∧ RelS F ρ' H' M' ∧ D ∉ ρ' ∧ H' D = some (.lst accv) ∧ Rps F ρ' H' acc accv ∧ oK F (Rp F) (fun c d H' => Wx c d τ H') Q ρ1 H1 ((flatL (itemL2 (own.map (·.2)) vs1 g fi1 g1 fe σ) (xs.drop i) M').bind fun ws M2 => mkL fz (acc ++ ws) M2),
      ⟨xs.length, by simp, Nat.zero_le _, ρ1, M1, [], [], Ext.upd0 hD, s1.upd0 hD, s1.fresh hD, upd_same, rfl, q1⟩, ?_⟩
    rintro i m H' ⟨rfl, hi, ρ', M', acc, accv, x', s', nD, hDl, ra, q'⟩
    by_cases hlt : i < xs.length
    · have hx : xs[i]? = some xs[i] := List.getElem?_eq_getElem hlt
      obtain ⟨go, yl⟩ := (r1 ρ' H' x'.toExtB).2 i xs[i] hx
      refine .inr ⟨go, fun H2 => ∃ ρ' M' acc accv, Ext ρ1 H1 ρ' H2 ∧ RelS F ρ' H2 M' ∧ D ∉ ρ' ∧ H2 D = some (.lst accv) ∧ Rps F ρ' H2 acc accv ∧ oK F (Rp F) (fun c d H' => Wx c d τ H') Q ρ1 H1 ((flatL (itemL2 (own.map (·.2)) vs1 g fi1 g1 fe σ) (xs.drop (i + 1)) M').bind fun ws M2 => mkL fz (acc ++ ws) M2),
        fun H2 h => ⟨xs.length - (i + 1), by omega, rfl, hlt, h⟩, fun v H2 y => ?_⟩
      obtain ⟨x2, s2, r2⟩ := yl v H2 y
      rw [List.drop_eq_getElem_cons hlt] at q'
      have bad : itemL2 (own.map (·.2)) vs1 g fi1 g1 fe σ xs[i] M' = .fail → False := fun h => by
        rw [flatL_cons, h] at q'
        exact q'
      cases eg : g xs[i] (wipeW σ (own.map (·.2))) M' with
      | none => exact (bad (by unfold itemL2; rw [eg])).elim
      | some σ1 =>
        refine ⟨ρ', _, M', xs[i], s2 M' s', wipe_rel ((rg.mono x1).mono (x'.trans x2)) _, r2, σ1, eg, fun τ1 g1' t1 => ⟨(Touch.wipe t1 his).trans (wipe_wipe τ _), ρ', σ1, M', s2 M' s', g1', ?_⟩⟩
        have hD2 : H2 D = some (.lst accv) := x2.fr D _ nD True.intro hDl
        intro ρ3 b H3 x3 s3 rb
        cases (show true = b from rb)
        rw [if_pos rfl]
        have nD3 : D ∉ ρ3 := fun z => by
          have := x3.nw D z nD
          rw [hD2] at this; cases this
        have hD3 : H3 D = some (.lst accv) := x3.fr D _ nD3 True.intro hD2
        refine ⟨ρ3, σ1, M', s3, g1'.mono x3, ?_⟩
        cases ei : fi1 σ1 M' with
        | exc c es M4 => exact (bad (by unfold itemL2; rw [eg]; dsimp only; rw [ei]; rfl)).elim
        | fail => exact bad (by unfold itemL2; rw [eg]; dsimp only; rw [ei]; rfl)
        | ok ys M4 =>
          intro ρ4 J1 H4 x4 s4 r4
          have nD4 : D ∉ ρ4 := fun z => by
            have := x4.nw D z nD3
            rw [hD3] at this; cases this
          have hD4 : H4 D = some (.lst accv) := x4.fr D _ nD4 True.intro hD3
          have e1 : itemL2 (own.map (·.2)) vs1 g fi1 g1 fe σ xs[i] M' = flatL (itemLc vs1 g1 yesQ fe σ1) ys M4 := by unfold itemL2; rw [eg]; dsimp only; rw [ei]; rfl
          rw [rest_open e1] at q'
          have x14 := ((x'.trans x2).trans x3).trans x4
          have g4 := (g1'.mono x3).mono x4
          refine ⟨fun j k H5 => k = ys.length - j ∧ j ≤ ys.length ∧ ∃ ρ' M' acc accv, Ext ρ1 H1 ρ' H5 ∧ ExtB ρ4 H4 ρ' H5 ∧ RelS F ρ' H5 M' ∧ D ∉ ρ' ∧ H5 D = some (.lst accv) ∧ Rps F ρ' H5 acc accv ∧ oK F (Rp F) (fun c d H' => Wx c d τ H') Q ρ1 H1 (restL2 fz (itemLc vs1 g1 yesQ fe σ1) (itemL2 (own.map (·.2)) vs1 g fi1 g1 fe σ) (ys.drop j) (xs.drop (i + 1)) acc M'),
            ⟨ys.length, by simp, Nat.zero_le _, ρ4, M4, acc, accv, x14, Ext.refl.toExtB, s4, nD4, hD4, Rps.mono ((x2.trans x3).trans x4) _ _ ra, q'⟩, ?_⟩
          rintro j k H5 ⟨rfl, hj, ρ5, M5, acc5, accv5, x5, x45, s5, nD5, hD5, ra5, q5⟩
          by_cases hlt2 : j < ys.length
          · have hy : ys[j]? = some ys[j] := List.getElem?_eq_getElem hlt2
            obtain ⟨go1, yl1⟩ := (r4 ρ5 H5 x45).2 j ys[j] hy
            refine .inr ⟨go1, fun H6 => ∃ ρ' M' acc accv, Ext ρ1 H1 ρ' H6 ∧ ExtB ρ4 H4 ρ' H6 ∧ RelS F ρ' H6 M' ∧ D ∉ ρ' ∧ H6 D = some (.lst accv) ∧ Rps F ρ' H6 acc accv ∧ oK F (Rp F) (fun c d H' => Wx c d τ H') Q ρ1 H1 (restL2 fz (itemLc vs1 g1 yesQ fe σ1) (itemL2 (own.map (·.2)) vs1 g fi1 g1 fe σ) (ys.drop (j + 1)) (xs.drop (i + 1)) acc M'),
              fun H6 h => ⟨ys.length - (j + 1), by omega, rfl, hlt2, h⟩, fun v1 H6 yy => ?_⟩
            obtain ⟨x6, s6, r6⟩ := yl1 v1 H6 yy
            rw [List.drop_eq_getElem_cons hlt2] at q5
            have bad1 : itemLc vs1 g1 yesQ fe σ1 ys[j] M5 = .fail → False := fun h => by
              rw [rest_fail h] at q5
              exact q5
            cases eg1 : g1 ys[j] (wipeW σ1 vs1) M5 with
            | none => exact (bad1 (by unfold itemLc; rw [eg1])).elim
            | some σ2 =>
              refine ⟨ρ5, _, M5, ys[j], s6 M5 s5, wipe_rel (RelG.monoB (RelG.monoB g4 x45) x6.toExtB) _, r6, σ2, eg1, fun τ2 g2 t2 => ⟨(Touch.wipe t2 his1).trans (wipe_wipe τ1 _), ρ5, σ2, M5, s6 M5 s5, g2, ?_⟩⟩
              have hD6 : H6 D = some (.lst accv5) := x6.fr D _ nD5 True.intro hD5
              intro ρ7 b H7 x7 s7 rb
              cases (show true = b from rb)
              rw [if_pos rfl]
              have nD7 : D ∉ ρ7 := fun z => by
                have := x7.nw D z nD5
                rw [hD6] at this; cases this
              have hD7 : H7 D = some (.lst accv5) := x7.fr D _ nD7 True.intro hD6
              refine ⟨ρ7, σ2, M5, s7, g2.mono x7, ?_⟩
              cases ee : fe σ2 M5 with
              | exc c es M8 => exact (bad1 (by unfold itemLc; rw [eg1]; show (calmO (fe σ2 M5)).bind _ = _; rw [ee]; rfl)).elim
              | fail => exact bad1 (by unfold itemLc; rw [eg1]; show (calmO (fe σ2 M5)).bind _ = _; rw [ee]; rfl)
              | ok w M8 =>
                intro ρ8 yv H8 x8 s8 r8
                have nD8 : D ∉ ρ8 := fun z => by
                  have := x8.nw D z nD7
                  rw [hD7] at this; cases this
                have hD8 : H8 D = some (.lst accv5) := x8.fr D _ nD8 True.intro hD7
                have e2 : itemLc vs1 g1 yesQ fe σ1 ys[j] M5 = .ok [w] M8 := by unfold itemLc; rw [eg1]; show (calmO (fe σ2 M5)).bind _ = _; rw [ee]; rfl
                rw [rest_cons e2] at q5
                have hz := restL2_len (fun x M => item_calm x M) (fun x M => l2_calm x M) q5
                have ra8 := Rps.mono ((x6.trans x7).trans x8) _ _ ra5
                have xx := ((x5.trans x6).trans x7).trans x8
                have xx4 := x45.trans ((x6.trans x7).trans x8).toExtB
                refine ⟨accv5, hD8, by rw [ra8.length]; simp at hz; omega, ρ8, M8, acc5 ++ [w], accv5 ++ [yv], Ext.own xx hD hD8, xx4.trans (ExtB.own hD8), s8.own nD8 hD8, nD8, upd_same, Rps.monoB (ExtB.own hD8) _ _ (Rps.append ra8 (Rps.one r8)), q5⟩
          · have ej : j = ys.length := by omega
            subst ej
            rw [List.drop_length, rest_nil] at q5
            exact .inl ⟨(r4 ρ5 H5 x45).1, ρ5, M5, acc5, accv5, x5, s5, nD5, hD5, ra5, q5⟩
    · have ei : i = xs.length := by omega
      subst ei
      refine .inl ⟨(r1 ρ' H' x'.toExtB).1, ?_⟩
      rw [List.drop_length] at q'
      have q' : oK F (Rp F) (fun c d H' => Wx c d τ H') Q ρ1 H1 (mkL fz (acc ++ []) M') := q'
      rw [List.append_nil] at q'
      unfold mkL at q'
      split at q'
      · split at q'
        · refine .inr ⟨D, .lst accv, hDl, True.intro, fun od => ?_⟩
          exact q' ρ' (.ref D) _ (Ext.own x' hD hDl) (s'.own nD hDl) ⟨D, accv, rfl, ⟨od, upd_same⟩, Rps.monoB (ExtB.own hDl) _ _ ra⟩
        · have xb : ExtB ρ' H' (ρ' ++ [D]) H' := ⟨⟨[D], rfl⟩, fun _ _ h => h, fun _ _ _ h => h, fun _ _ h => h, fun _ _ h => h, fun _ h => h⟩
          obtain ⟨x2, s2, r2⟩ := push_own (ob := .lst acc) x' hD s' nD ⟨accv, hDl, Rps.monoB xb _ _ ra⟩
          exact .inl (q' (ρ' ++ [D]) (.ref D) H' x2 s2 r2)
      · exact q'.elim
section
variable {elt tg iter tg1 iter1 : Expr} {scope : Scope} {own : List (Str × Nat)} {vs1 : List Nat} {pos : Pos} {fi fi1 : FI} {is is1 : List Nat} {g g1 : W → Sg → Store → Option Sg} {fe : FE} {fz : Bool}
theorem e_lc2 (hc : X.calm = true) (hN : X.N.Nodup) (hi : PI X tg iter (tI F Wx fi)) (ok : BlkOk X.N X.env.scope scope own) (hv : ∀ i ∈ vs1, i ∈ own.map (·.2)) (his : ∀ i ∈ is, i ∈ own.map (·.2)) (his1 : ∀ i ∈ is1, i ∈ vs1)
    (hg : ∀ (s : Shared) (H : Hp) (C : Addr) (cl : List (Str × Addr)) (fp : List Addr), PG (X.blk s H scope (compEnvC scope cl C X.env) fp) tg (tGW F is g))
    (hi1 : ∀ (s : Shared) (H : Hp) (C : Addr) (cl : List (Str × Addr)) (fp : List Addr), PI (X.blk s H scope (compEnvC scope cl C X.env) fp) tg1 iter1 (tI F WN fi1))
    (hg1 : ∀ (s : Shared) (H : Hp) (C : Addr) (cl : List (Str × Addr)) (fp : List Addr), PG (X.blk s H scope (compEnvC scope cl C X.env) fp) tg1 (tGW F is1 g1))
    (he : ∀ (s : Shared) (H : Hp) (C : Addr) (cl : List (Str × Addr)) (fp : List Addr), PE (X.blk s H scope (compEnvC scope cl C X.env) fp) elt (tE F WN fe)) (hs : ∀ x, foldedSetIterable iter X.env x = pure x) (hs1 : ∀ env x, foldedSetIterable iter1 env x = pure x) :
    PE X (.ListComp elt [⟨tg, iter, [], 0⟩, ⟨tg1, iter1, [], 0⟩] scope pos) (tE F Wx fun σ M => (fi σ M).bind fun xs M1 => (flatL (itemL2 (own.map (·.2)) vs1 g fi1 g1 fe σ) xs M1).bind (mkL fz)) :=
  PE.weak (PE.lockV (pe_lc2 hc hN hi ok hv hg (fun _ _ _ _ _ => pts_yes (F := F) (Wx := WN)) hi1 hg1 (fun _ _ _ _ _ => pts_yes (F := F) (Wx := WN)) he hs hs1)) fun τ H Q q => l2_read his his1 q
theorem s_setLc2 {i : Nat} {y : Str} {py spos : Pos} (hc : X.calm = true) (hN : X.N.Nodup) (hy : X.N[i]? = some y) (hyl : X.env.scope.names.lookup y = some .local)
    (hsw : swapsWith (.ListComp elt [⟨tg, iter, [], 0⟩, ⟨tg1, iter1, [], 0⟩] scope pos) (some (.Name y py)) spos.line X.env = pure true) (hi : PI X tg iter (tI F Wx fi)) (ok : BlkOk X.N X.env.scope scope own) (hv : ∀ i ∈ vs1, i ∈ own.map (·.2)) (his : ∀ i ∈ is, i ∈ own.map (·.2)) (his1 : ∀ i ∈ is1, i ∈ vs1)
    (hg : ∀ (s : Shared) (H : Hp) (C : Addr) (cl : List (Str × Addr)) (fp : List Addr), PG (X.blk s H scope (compEnvC scope cl C X.env) fp) tg (tGW F is g))
    (hi1 : ∀ (s : Shared) (H : Hp) (C : Addr) (cl : List (Str × Addr)) (fp : List Addr), PI (X.blk s H scope (compEnvC scope cl C X.env) fp) tg1 iter1 (tI F WN fi1))
    (hg1 : ∀ (s : Shared) (H : Hp) (C : Addr) (cl : List (Str × Addr)) (fp : List Addr), PG (X.blk s H scope (compEnvC scope cl C X.env) fp) tg1 (tGW F is1 g1))
    (he : ∀ (s : Shared) (H : Hp) (C : Addr) (cl : List (Str × Addr)) (fp : List Addr), PE (X.blk s H scope (compEnvC scope cl C X.env) fp) elt (tE F WN fe)) (hs : ∀ x, foldedSetIterable iter X.env x = pure x) (hs1 : ∀ env x, foldedSetIterable iter1 env x = pure x) :
    PS X (.Assign [.Name y py] (.ListComp elt [⟨tg, iter, [], 0⟩, ⟨tg1, iter1, [], 0⟩] scope pos) spos) (tS F Wx fun σ M => ((fi σ M).bind fun xs M1 => (flatL (itemL2 (own.map (·.2)) vs1 g fi1 g1 fe σ) xs M1).bind (mkL fz)).st σ fun w M1 => .next (σ.set i (some w)) M1) := by
  refine PS.weak (PS.lockN (ps_setLc2 hc hN hy hyl hsw hi ok hv hg (fun _ _ _ _ _ => pts_yes (F := F) (Wx := WN)) hi1 hg1 (fun _ _ _ _ _ => pts_yes (F := F) (Wx := WN)) he hs hs1)) fun D τ H ⟨ρ, σ, M, rs, rg, q⟩ => ?_
  refine l2_read (fz := fz) (Q := fun x H1 => D.nx (τ.set i (some x)) H1) his his1 ⟨ρ, σ, M, rs, rg, ?_⟩
  exact oK_st rg q fun w M1 _ ρ1 v H1 x s r q1 => q1 ρ1 H1 _ Ext.refl s ((rg.mono x).set r)
end
end
end Mp
set_option Elab.async false
set_option linter.all false
set_option maxRecDepth 100000
set_option maxHeartbeats 4000000
namespace Mp
open PySem PySem.Spec PyProof.Rows L2 SeqAt
section
variable {F : Fx} {Wx : WX} {X : Cx} {G : Gm} {C : Orc} {o e : Expr} {fo f : FE} {pos pos' : Pos}
/-- o.f = e -/
theorem s_setA {a : Str} (he : PE X e (tE F Wx f)) (ho : PE X o (tE F Wx fo)) (hC : ∀ c i, G.cls c = some i → ∃ D, ClsOk F X c D i.flds) (hs : swapsWith e (some (.Attribute o a pos')) pos.line X.env = pure false) :
    PS X (.Assign [.Attribute o a pos'] e pos) (tS F Wx fun σ M => (f σ M).st σ fun w M1 => (fo σ M1).st σ fun x M2 => stO (setAttrW G x a w M2) σ) := by
  refine ⟨fun pins s τ H D I ⟨ρ, σ, M, rs, rg, q⟩ => ?_⟩
  refine plainObj_wpAny_Assign_Attribute (thn (he.run pins s τ H (fun v H1 => ∃ ρ1 w M1, RelS F ρ1 H1 M1 ∧ RelG F ρ1 H1 σ τ ∧ Rp F ρ1 H1 w v ∧ sK F Wx D ρ1 H1 ((fo σ M1).st σ fun x M2 => stO (setAttrW G x a w M2) σ)) I ⟨ρ, σ, M, rs, rg, oK_st rg q fun w M1 _ ρ1 v H1 x s r q1 => ⟨ρ1, w, M1, s, rg.mono x, r, q1⟩⟩) fun u s1 ⟨v, H1, I1, rv, ρ1, w, M1, rs1, rg1, r1, q1⟩ => ?_) hs
  refine thn (ho.run pins s1 τ H1 (fun v2 H2 => ∃ ρ2 x M2, RelS F ρ2 H2 M2 ∧ RelG F ρ2 H2 σ τ ∧ Rp F ρ2 H2 x v2 ∧ Rp F ρ2 H2 w v ∧ sK F Wx D ρ2 H2 (stO (setAttrW G x a w M2) σ)) I1 ⟨ρ1, σ, M1, rs1, rg1, oK_st rg1 q1 fun y M2 _ ρ2 v2 H2 x s r q2 => ⟨ρ2, y, M2, s, rg1.mono x, r, Rp.mono x _ _ r1, q2⟩⟩) fun u2 s2 ⟨v2, H2, I2, rv2, ρ2, x, M2, rs2, rg2, r2, rw2, q2⟩ => ?_
  cases h : setAttrW G x a w M2 with
  | none => rw [h] at q2; exact q2.elim
  | some M' =>
    rw [h] at q2
    cases x with
    | ref l =>
      cases em : M2[l]? with
      | none => unfold setAttrW at h; dsimp only at h; rw [em] at h; cases h
      | some ob =>
        cases ob with
        | ins c es =>
          refine wpAny_mono (setF_ok (Q := fun H' => D.nx τ H') I2 rs2 r2 rv2 rw2 rv em hC h fun H' x' s' => q2 ρ2 H' τ x' s' (rg2.mono x')) (fun _ s3 ⟨H3, I3, q3⟩ => ⟨τ, H3, I3, q3⟩) fun _ _ z => z
        | _ => unfold setAttrW at h; dsimp only at h; rw [em] at h; cases h
    | _ => unfold setAttrW at h; cases h
end
end Mp
set_option Elab.async false
set_option linter.all false
set_option maxRecDepth 100000
set_option maxHeartbeats 2000000
namespace Mp
open PySem PySem.Spec PyProof.Rows L2
/-! ### what expressions, statements mean -/
abbrev fVar (i : Nat) : FE := fun σ M => varW i σ M
abbrev fCon (w : W) : FE := fun _ M => .ok w M
abbrev fBin (o : W → W → Store → Out W) (f g : FE) : FE := fun σ M => (f σ M).bind fun x M1 => (g σ M1).bind fun y M2 => o x y M2
abbrev fNot (f : FE) : FE := fun σ M => (tstW (f σ M)).bind fun k M1 => .ok (.bl (!k)) M1
abbrev fAnd (f g : FE) : FE := fun σ M => (tstW (f σ M)).bind fun k M1 => match k with | true => g σ M1 | false => .ok (.bl false) M1
abbrev fOr (f g : FE) : FE := fun σ M => (tstW (f σ M)).bind fun k M1 => match k with | true => .ok (.bl true) M1 | false => g σ M1
abbrev fIfe (c f g : FE) : FE := fun σ M => (tstW (c σ M)).bind fun k M1 => match k with | true => f σ M1 | false => g σ M1
abbrev FA := Sg → Store → Out (List W)
abbrev fNil : FA := fun _ M => .ok [] M
abbrev fOne (f : FE) (r : FA) : FA := fun σ M => (f σ M).bind fun w M1 => (r σ M1).bind fun ws M2 => .ok (w :: ws) M2
abbrev fStar (f : FE) (r : FA) : FA := fun σ M => (f σ M).bind fun w M1 => match seqOf M1 w with
  | some xs => (r σ M1).bind fun ws M2 => .ok (xs ++ ws) M2
  | none => .fail
/-- a call of any kind, over the row of its values -/
abbrev fApp (r : FA) (g : List W → Store → Out W) : FE := fun σ M => (r σ M).bind g
abbrev fTup (r : FA) : FE := fApp r mkT
abbrev fLst (fz : Bool) (r : FA) : FE := fApp r (mkL fz)
abbrev fSl (f : FE) (l h : FO) : FE := fun σ M => (f σ M).bind fun x M1 => (l σ M1).bind fun l M2 => (h σ M2).bind fun h M3 => slW x l h M3
abbrev oNo : FO := fun _ M => .ok none M
abbrev oSo (f : FE) : FO := fun σ M => (f σ M).bind fun w M1 => match w with | .int i => .ok (some i) M1 | _ => .fail
abbrev fU (f : FE) (g : W → Store → Out W) : FE := fun σ M => (f σ M).bind g
/-- x(..) of a built-in type's method -/
abbrev fBm (f : FE) (chk : Store → W → Bool) (r : FA) (g : W → List W → Store → Out W) : FE := fun σ M => (f σ M).bind fun x M1 => match chk M1 x with | true => (r σ M1).bind fun ws M2 => g x ws M2 | false => .fail
abbrev iPl (f : FE) : FI := fun σ M => (f σ M).bind plainIt
abbrev iEn (f : FE) : FI := fun σ M => (f σ M).bind enumIt
abbrev iZi (f g : FE) : FI := fun σ M => (f σ M).bind fun x M1 => (g σ M1).bind fun y M2 => zipIt x y M2
abbrev iRa (f : FE) : FI := fun σ M => (f σ M).bind rangeO
abbrev sNil : FS := fun σ M => .next σ M
abbrev sSeq (f g : FS) : FS := fun σ M => (f σ M).then_ fun σ1 M1 => g σ1 M1
abbrev sExp (f : FE) : FS := fun σ M => (f σ M).st σ fun _ M1 => .next σ M1
abbrev sRet (f : FE) : FS := fun σ M => (f σ M).st σ fun w M1 => .ret w M1
abbrev sRetN : FS := fun _ M => .ret .non M
abbrev sIf (c : FE) (a b : FS) : FS := fun σ M => (tstW (c σ M)).st σ fun k M1 => match k with | true => a σ M1 | false => b σ M1
abbrev sSet (t : Tg) (f : FE) : FS := fun σ M => (f σ M).st σ fun w M1 => match asgT t w σ M1 with | some σ1 => .next σ1 M1 | none => .fail
abbrev sSetI (o i f : FE) : FS := fun σ M => (f σ M).st σ fun w M1 => (o σ M1).st σ fun x M2 => (i σ M2).st σ fun y M3 => stO (setItemW x y w M3) σ
abbrev sSetA (G : Gm) (o : FE) (a : Str) (f : FE) : FS := fun σ M => (f σ M).st σ fun w M1 => (o σ M1).st σ fun x M2 => stO (setAttrW G x a w M2) σ
abbrev sFor (t : Tg) (i : FI) (b : FS) : FS := fun σ M => (i σ M).st σ fun xs M1 => forL (fun x σ1 M2 => match asgT t x σ1 M2 with | some σ2 => b σ2 M2 | none => .fail) xs σ M1
abbrev sNo : FS := fun _ _ => .fail
end Mp
set_option Elab.async false
set_option linter.all false
set_option maxRecDepth 100000
set_option maxHeartbeats 2000000
namespace Mp
open PySem PySem.Spec PyProof.Rows L2
/-- what every place of a def's body knows of its context -/
structure Cz (F : Fx) (Wx : WX) (G : Gm) (C : Orc) (lv : Nat) (X : Cx) : Prop where
  ok : CxOk F X
  calm : X.calm = true
  nd : X.N.Nodup
  tk : Takes X Wx
  rm : Room lv X.A
  ps : PassesOwn (model X.prog X.w) X.A X.env X.xe
  eqn : ∀ c i, G.cls c = some i → i.eqf = none
  cls : ∀ c i, G.cls c = some i → ∃ D, ClsOk F X c D i.flds
section
variable {F : Fx} {Wx : WX} {G : Gm} {C : Orc} {lv : Nat} {X : Cx} {pos p p2 apos : Pos} {a b c e o : Expr} {es rest : List Expr} {f g h : FE} {r : FA}
theorem Cz.own (z : Cz F Wx G C lv X) : OpX X F Wx (compareOp .Eq) fun a b M => match insOf M a with | some _ => eqW G C a b M | none => .fail := by
  intro pins s τ H x y v u Q I rx ry ⟨ρ, M, a, b, rs, ra, rb, q⟩
  exfalso
  dsimp only at q
  cases e : insOf M a with
  | none => rw [e] at q; exact q
  | some ce =>
    obtain ⟨c, es⟩ := ce
    rw [e] at q
    unfold eqW at q
    rw [e] at q
    dsimp only at q
    cases e2 : G.cls c with
    | none => rw [e2] at q; exact q
    | some i => rw [e2] at q; dsimp only at q; rw [z.eqn c i e2] at q; exact q
theorem Cz.blk (z : Cz F Wx G C lv X) {s : Shared} {H : Hp} {sc : Scope} {ce : Env} {fp : List Addr} : Cz F WN G C lv (X.blk s H sc ce fp) :=
  ⟨⟨z.ok.k, z.ok.w, z.ok.un⟩, z.calm, z.nd, takes0, z.rm, PassesOwn.never, z.eqn, fun c i e => by
    obtain ⟨D, d⟩ := z.cls c i e
    exact ⟨D, d.same, d.at_, d.pg, d.ic, d.plain, d.slot⟩⟩
/-! ### chains of two comparisons of ints -/
abbrev fCh (b1 b2 : Int → Int → Bool) (f g h : FE) : FE := fun σ M => (f σ M).bind fun x M1 => (g σ M1).bind fun y M2 => match x, y with
  | .int i, .int j => (match b1 i j with
    | true => (h σ M2).bind fun z M3 => (match z with
      | .int k => .ok (.bl (b2 j k)) M3
      | _ => .fail)
    | false => .ok (.bl false) M2)
  | _, _ => .fail
theorem ch_read {b1 b2 : Int → Int → Bool} {τ : L2.St} {H : Hp} {Q : VK} (q : tE F Wx (fCh b1 b2 f g h) τ H Q) : tChain (rI0 fun i j => .bl (b1 i j)) (rI0 fun i j => .bl (b2 i j)) (tE F Wx f) (tE F Wx g) (tE F Wx h) τ H Q := by
  obtain ⟨ρ, σ, M, rs, rg, q⟩ := q
  refine tE_bind rs rg q fun ρ1 x M1 v H1 x1 rs1 rg1 r1 q1 => tE_bind rs1 rg1 q1 fun ρ2 y M2 u H2 x2 rs2 rg2 r2 q2 => ?_
  cases x with
  | int i =>
    cases y with
    | int j =>
      cases (show v = .int i from r1)
      cases (show u = .int j from r2)
      refine ⟨i, j, rfl, rfl, b1 i j, rfl, ?_⟩
      cases k : b1 i j with
      | false =>
        rw [if_neg Bool.false_ne_true]
        simp only [k] at q2
        exact oK_ok q2 rs2 rfl
      | true =>
        rw [if_pos rfl]
        simp only [k] at q2
        refine tE_bind rs2 rg2 q2 fun ρ3 z M3 w H3 x3 rs3 rg3 r3 q3 => ?_
        cases z with
        | int m =>
          cases (show w = .int m from r3)
          exact ⟨j, m, rfl, rfl, oK_ok q3 rs3 rfl⟩
        | _ => exact q3.elim
    | _ => exact q2.elim
  | _ => exact q2.elim
theorem p_ch {op op' : CmpOp} {b1 b2 : Int → Int → Bool} (ho : OpR X (compareOp op) (rI0 fun i j => .bl (b1 i j))) (ho' : OpR X (compareOp op') (rI0 fun i j => .bl (b2 i j))) (ha : PE X a (tE F Wx f)) (hb : PE X b (tE F Wx g)) (hc : PE X c (tE F Wx h))
    (hm : lastMarks [op, op'] [b, c] = false := by with_unfolding_all rfl) : PE X (.Compare a [op, op'] [b, c] pos) (tE F Wx (fCh b1 b2 f g h)) :=
  PE.weak (pe_chain ho ho' ha hb hc hm) fun τ H Q q => ch_read q
/-! ### expressions -/
theorem p_var (i : Nat) {x : Str} (hN : X.N[i]? = some x := by rfl) (hv : Vis X.env.scope x := by first | exact Or.inl rfl | exact Or.inr (Or.inl rfl) | exact Or.inr (Or.inr rfl)) (hd : (x == ("__debug__" : Str)) = false := by decide) (hcd : (x == ("__classdict__" : Str)) = false := by decide) :
    PE X (.Name x pos) (tE F Wx (fVar i)) := e_var hN hv hd hcd
theorem p_int {i : Int} {j : Nat} : PE X (.Constant (.int i) j pos) (tE F Wx (fCon (.int i))) := e_con pe_int fun _ _ => rfl
theorem p_str {s : Str} {j : Nat} : PE X (.Constant (.str s) j pos) (tE F Wx (fCon (.str s))) := e_con pe_str fun _ _ => rfl
theorem p_non {j : Nat} : PE X (.Constant .none j pos) (tE F Wx (fCon .non)) := e_con pe_non fun _ _ => rfl
theorem p_bl {k : Bool} {j : Nat} : PE X (.Constant (.bool k) j pos) (tE F Wx (fCon (.bl k))) := e_con pe_bl fun _ _ => rfl
theorem p_bin (z : Cz F Wx G C lv X) (fz : Bool) {op : Operator} (ha : PE X a (tE F Wx f)) (hb : PE X b (tE F Wx g)) : PE X (.BinOp a op b pos) (tE F Wx (fBin (binop fz op) f g)) := e_bin (ox_bin z.ok.k fz op) ha hb
theorem p_cmp (z : Cz F Wx G C lv X) {op : CmpOp} (ha : PE X a (tE F Wx f)) (hb : PE X b (tE F Wx g)) (hm : behindInMarks op b = false := by first | exact nomark _ | rfl) : PE X (.Compare a [op] [b] pos) (tE F Wx (fBin (cmpop G C op) f g)) := e_cmp (ox_cmp z.ok z.own op) ha hb hm
theorem p_not (ha : PE X a (tE F Wx f)) : PE X (.UnaryOp .Not a pos) (tE F Wx (fNot f)) := e_not ha
theorem p_and (ha : PE X a (tE F Wx f)) (hb : PE X (.BoolOp .And (b :: rest) pos) (tE F Wx g)) : PE X (.BoolOp .And (a :: b :: rest) pos) (tE F Wx (fAnd f g)) := e_and ha hb
theorem p_or (ha : PE X a (tE F Wx f)) (hb : PE X (.BoolOp .Or (b :: rest) pos) (tE F Wx g)) : PE X (.BoolOp .Or (a :: b :: rest) pos) (tE F Wx (fOr f g)) := e_or ha hb
theorem p_one {op : BoolOp} (ha : PE X a (tE F Wx f)) : PE X (.BoolOp op [a] pos) (tE F Wx f) := pe_one ha
/-! ### tests: of a BoolOp as a row (PW), else PT -/
abbrev Tst (F : Fx) (Wx : WX) (f : FE) : TT := tQ F Wx fun σ M => tstW (f σ M)
theorem q_val (ha : PE X a (tE F Wx f)) (he : ∀ whole, isTrue a X.env whole = (do let v ← whole; standAt a.pos; holding [v] (truthy v)) := by intro _; rfl) : PT X a (Tst F Wx f) := t_val ha he
theorem q_cmp (z : Cz F Wx G C lv X) {op : CmpOp} (ha : PE X a (tE F Wx f)) (hb : PE X b (tE F Wx g)) (hm : behindInMarks op b = false := by first | exact nomark _ | rfl) : PT X (.Compare a [op] [b] pos) (Tst F Wx (fBin (cmpop G C op) f g)) := t_cmp (ox_cmp z.ok z.own op) ha hb hm
theorem q_ch {op op' : CmpOp} {b1 b2 : Int → Int → Bool} (ho : OpR X (compareOp op) (rI0 fun i j => .bl (b1 i j))) (ho' : OpR X (compareOp op') (rI0 fun i j => .bl (b2 i j))) (ha : PE X a (tE F Wx f)) (hb : PE X b (tE F Wx g)) (hc : PE X c (tE F Wx h))
    (hm : lastMarks [op, op'] [b, c] = false := by with_unfolding_all rfl) : PT X (.Compare a [op, op'] [b, c] pos) (Tst F Wx (fCh b1 b2 f g h)) :=
  PT.weak (pt_chain ho ho' ha hb hc hm) fun τ H Q ⟨ρ, σ, M, rs, rg, q⟩ => ch_read (Wx := Wx) ⟨ρ, σ, M, rs, rg, tstW_K q⟩
theorem q_not (ha : PT X a (Tst F Wx f)) : PT X (.UnaryOp .Not a pos) (Tst F Wx (fNot f)) := t_not ha
theorem q_and (ha : PT X a (Tst F Wx f)) (hb : PW X (.BoolOp .And (b :: rest) pos) (Tst F Wx g)) : PW X (.BoolOp .And (a :: b :: rest) pos) (Tst F Wx (fAnd f g)) := t_and ha hb
theorem q_or (ha : PT X a (Tst F Wx f)) (hb : PW X (.BoolOp .Or (b :: rest) pos) (Tst F Wx g)) : PW X (.BoolOp .Or (a :: b :: rest) pos) (Tst F Wx (fOr f g)) := t_or ha hb
theorem q_and1 (ha : PT X a (Tst F Wx f)) : PW X (.BoolOp .And [a] pos) (Tst F Wx f) := pw_and1 ha
theorem q_or1 (ha : PT X a (Tst F Wx f)) : PW X (.BoolOp .Or [a] pos) (Tst F Wx f) := pw_or1 ha
theorem p_ife {fc : FE} (hc : PT X c (Tst F Wx fc)) (ha : PE X a (tE F Wx f)) (hb : PE X b (tE F Wx g)) : PE X (.IfExp c a b pos) (tE F Wx (fIfe fc f g)) := e_ife hc ha hb
/-! ### rows -/
theorem p_nil : PA X [] (tL F Wx fNil) := a_nil
theorem p_arg (ha : PE X a (tE F Wx f)) (hr : PA X es (tL F Wx r)) (hs : starEach (a :: es) X.env = (false, eval a X.env) :: starEach es X.env := by rfl) : PA X (a :: es) (tL F Wx (fOne f r)) := a_one ha hr hs
theorem p_star (z : Cz F Wx G C lv X) (ha : PE X a (tE F Wx f)) (hr : PA X es (tL F Wx r)) : PA X (.Starred a p :: es) (tL F Wx (fStar f r)) := a_star z.ok.k ha hr
theorem p_tup {k : Nat} (ha : PA X es (tL F Wx r)) : PE X (.Tuple es k pos) (tE F Wx (fTup r)) := e_tup ha
theorem p_lst (fz : Bool) (ha : PA X es (tL F Wx r)) : PE X (.List es pos) (tE F Wx (fLst fz r)) := e_lst ha
theorem p_ix (z : Cz F Wx G C lv X) (ha : PE X a (tE F Wx f)) (hb : PE X b (tE F Wx g)) (hs : PlainIx b := by exact fun _ _ => rfl) : PE X (.Subscript a b pos) (tE F Wx (fBin ixW f g)) := e_ix z.ok ha hb hs
theorem p_sl (z : Cz F Wx G C lv X) {lo hi : Option Expr} {fl fh : FO} (ha : PE X a (tE F Wx f)) (hl : PO X lo (tOW F Wx fl)) (hh : PO X hi (tOW F Wx fh)) : PE X (.Subscript a (.Slice lo hi none p2) pos) (tE F Wx (fSl f fl fh)) := e_sl z.ok.k ha hl hh
theorem p_oNo : PO X none (tOW F Wx oNo) := o_none
theorem p_oSo (ha : PE X a (tE F Wx f)) : PO X (some a) (tOW F Wx (oSo f)) := o_some ha
theorem p_frz (ha : PE X a (tE F Wx f)) : PE X a (tE F Wx (fU f freezeW)) := e_frz ha
/-! ### iterators -/
theorem p_iPl (z : Cz F Wx G C lv X) {tg : Expr} (he : PE X e (tE F Wx f)) : PI X tg e (tI F Wx (iPl f)) := i_plain z.ok he
theorem p_iRa {tg : Expr} (hg : Gl X "range") (hm : X.mg "range" = none) (ha : PE X a (tE F Wx f)) (hs1 : starEach [a] X.env = (false, eval a X.env) :: starEach [] X.env := by rfl) (hs : starEach [a] X.env = [(false, eval a X.env)] := by rfl) : PI X tg (.Call (.Name "range" p) [a] [] pos) (tI F Wx (iRa f)) := i_range hg hm ha hs1 hs
theorem p_iEn (z : Cz F Wx G C lv X) {elts : List Expr} {kk : Nat} {tpos : Pos} (hg : Gl X "enumerate") (hm : X.mg "enumerate" = none) (he : PE X e (tE F Wx f)) (hs : starEach [e] X.env = [(false, eval e X.env)] := by rfl) :
    PI X (.Tuple elts kk tpos) (.Call (.Name "enumerate" p) [e] [] pos) (tI F Wx (iEn f)) := i_enum z.ok hg hm he hs
theorem p_iZi (z : Cz F Wx G C lv X) {elts : List Expr} {kk : Nat} {tpos : Pos} {e2 : Expr} (hg : Gl X "zip") (hm : X.mg "zip" = none) (he : PE X e (tE F Wx f)) (he2 : PE X e2 (tE F Wx g)) (hs : starEach [e, e2] X.env = (false, eval e X.env) :: starEach [e2] X.env := by rfl)
    (hs2 : starEach [e2] X.env = (false, eval e2 X.env) :: starEach [] X.env := by rfl) (hpl : (backTo pos (starEach [e2] X.env)).any (·.1) = false := by rfl) : PI X (.Tuple elts kk tpos) (.Call (.Name "zip" p) [e, e2] [] pos) (tI F Wx (iZi f g)) := i_zip z.ok hg hm he he2 hs hs2 hpl
/-! ### statements -/
theorem p_sNil : PSs X [] (tS F Wx sNil) := s_nil
theorem p_sCons {st : Stmt} {rs : List Stmt} {u v : FS} (h1 : PS X st (tS F Wx u)) (h2 : PSs X rs (tS F Wx v)) : PSs X (st :: rs) (tS F Wx (sSeq u v)) := s_cons h1 h2
theorem p_sPass : PS X (.Pass pos) (tS F Wx sNil) := s_pass
theorem p_sExp (he : PE X e (tE F Wx f)) (hs : swapsWith e none pos.line X.env = pure false := by rfl) : PS X (.Expr e pos) (tS F Wx (sExp f)) := s_expr he (ps_expr he hs)
theorem p_sRet (he : PE X e (tE F Wx f)) : PS X (.Return (some e) pos) (tS F Wx (sRet f)) := s_ret he
theorem p_sRetN : PS X (.Return none pos) (tS F Wx sRetN) := s_retN
theorem p_sIf {ba bb : List Stmt} {u v : FS} (hc : PT X c (Tst F Wx f)) (ha : PSs X ba (tS F Wx u)) (hb : PSs X bb (tS F Wx v)) : PS X (.If c ba bb pos) (tS F Wx (sIf f u v)) := s_if hc ha hb
theorem p_tN (z : Cz F Wx G C lv X) {x : Str} (i : Nat) (hi : X.N[i]? = some x := by rfl) (hx : Loc X.env.scope x := by first | exact Or.inl rfl | exact Or.inr rfl) (hf : X.fn x = true ∨ List.lookup x X.env.scope.names = some NameKind.local := by first | exact Or.inl rfl | exact Or.inr rfl) : PG X (.Name x pos) (tGW F [i] fun w σ M => asgT (.n i) w σ M) := g_name z.nd hi hx hf
theorem p_gNil : PGs X [] (tGsW F []) := g_nil
theorem p_gN (z : Cz F Wx G C lv X) {x : Str} {is : List Nat} (i : Nat) (n : NameOk X x i) (h : PGs X es (tGsW F is)) : PGs X (.Name x p :: es) (tGsW F (i :: is)) := g_cons z.nd n h
theorem p_tT (z : Cz F Wx G C lv X) {k : Nat} {is : List Nat} (h : PGs X es (tGsW F is)) (hn : (assignEach es X.env).length = is.length := by rfl) (hst : (assignEach es X.env).findIdx? (·.1) = none := by rfl) : PG X (.Tuple es k pos) (tGW F is fun w σ M => asgT (.t is) w σ M) := g_tup z.ok.k z.calm h hn hst
theorem p_sSet {tg : Expr} {t : Tg} {is : List Nat} (he : PE X e (tE F Wx f)) (hg : PG X tg (tGW F is fun w σ M => asgT t w σ M)) (hs : swapsWithSole [tg] e pos.line X.env = pure false := by rfl) (hw : swappedStores [tg] e X.env = pure none := by rfl) (h1 : (assignEach [tg] X.env).map (·.2) = [assign tg X.env] := by rfl) : PS X (.Assign [tg] e pos) (tS F Wx (sSet t f)) := s_set (ps_asg he hg hs hw h1)
theorem p_sSetI (z : Cz F Wx G C lv X) {i : Expr} (he : PE X e (tE F Wx f)) (ho : PE X o (tE F Wx g)) (hi : PE X i (tE F Wx h)) (hs : swapsWithSole [.Subscript o i p] e pos.line X.env = pure false := by rfl) (hw : swappedStores [.Subscript o i p] e X.env = pure none := by rfl)
    (h1 : (assignEach [.Subscript o i p] X.env).map (·.2) = [assign (.Subscript o i p) X.env] := by rfl)
    (h2 : ∀ v, assign (.Subscript o i p) X.env v = (do
      let ov ← holding [v] (eval o X.env)
      let iv ← holding [v, ov] (eval i X.env)
      standAt p
      holding [v, ov, iv] (setItem ov iv v)
      release [v, ov, iv] []) := by intro _; rfl) :
    PS X (.Assign [.Subscript o i p] e pos) (tS F Wx (sSetI g h f)) := s_setI (ps_asg he (pg_sub ho hi (set_all z.ok) h2) hs hw h1)
theorem p_sSetA (z : Cz F Wx G C lv X) {a : Str} (he : PE X e (tE F Wx f)) (ho : PE X o (tE F Wx g)) (hs : swapsWith e (some (.Attribute o a p)) pos.line X.env = pure false := by rfl) : PS X (.Assign [.Attribute o a p] e pos) (tS F Wx (sSetA G g a f)) := s_setA he ho z.cls hs
theorem p_sFor (z : Cz F Wx G C lv X) {tg iter : Expr} {t : Tg} {is : List Nat} {body : List Stmt} {fi : FI} {u : FS} (hi : PI X tg iter (tI F Wx fi)) (hg : PG X tg (tGW F is fun w σ M => asgT t w σ M)) (hb : PSs X body (tS F Wx u)) (hs : ∀ x, foldedSetIterable iter X.env x = pure x := by intro _; rfl) :
    PS X (.For tg iter body [] pos) (tS F Wx (sFor t fi u)) := s_for z.ps z.calm hi hg hb hs
/-- what never runs -/
theorem p_sNo {st : Stmt} : PS X st (tS F Wx sNo) := ⟨fun _ _ _ _ _ _ ⟨_, _, _, _, _, q⟩ => q.elim⟩
end
end Mp
set_option Elab.async false
set_option linter.all false
set_option maxRecDepth 100000
set_option maxHeartbeats 2000000
namespace Mp
open PySem PySem.Spec PyProof.Rows L2
/-- a def that is called: what is known of it, over the written part -/
structure Cal (F : Fx) (P : Program) (w : World) (K : PySem.W.Frag) (mg : Str → Option Value) (base : Heap) (u : List W → Store → Out W) (n : Nat) (g : Addr) (np : Nat) : Prop where
  ok : ∃ fd ps, ps.length = np ∧ FnOk P w K mg base (L2.CX P w) (n + 1) g fd ps (spC F (fun _ => u) n np) ∧ L2.Binds K fd ps []
  kp : PySem.W.keepIn K (.ref g) = true
  ar : ∀ ws M, ws.length ≠ np → u ws M = .fail
section
variable {F : Fx} {Wx : WX} {G : Gm} {C : Orc} {lv : Nat} {X : Cx} {pos p p2 apos : Pos} {a b c e o : Expr} {es rest : List Expr} {f g h : FE} {r : FA} {u : List W → Store → Out W}
theorem Cal.at {n np : Nat} {k : Addr} (d : Cal F X.prog X.w X.K X.mg X.base u n k np) : Callee F X (fun _ => u) n k np := ⟨d.ok, d.kp, d.ar⟩
/-- a def's call; pu: in a store of its own -/
abbrev fCall (pu : Bool) (n : Nat) (u : List W → Store → Out W) (r : FA) : FE := fApp r fun ws M1 => callC (fun _ => u) pu n ws M1
theorem p_call (z : Cz F Wx G C lv X) (pu : Bool) {n np : Nat} {k : Addr} {x : Str} (d : Cal F X.prog X.w X.K X.mg X.base u n k np) (hm : X.mg x = some (.ref k)) (ha : PA X (e :: es) (tL F Wx r)) (hn : n + 1 ≤ lv := by decide) (hg : Gl X x := by rfl) (hdb : (x == ("__debug__" : Str)) = false := by decide)
    (he : starEach (e :: es) X.env = (false, eval e X.env) :: starEach es X.env := by rfl) (hpl : (backTo pos (starEach es X.env)).any (·.1) = false := by rfl) : PE X (.Call (.Name x p) (e :: es) [] pos) (tE F Wx (fCall pu n u r)) :=
  e_call z.tk d.at (z.rm.mono hn) hg hm ha hdb he hpl
/-! ### built-in functions and types -/
theorem p_bi (z : Cz F Wx G C lv X) {x : Str} {id : String} {k : List W → Store → Out W} (hc : BiOk X F (.builtin id) k) (n : ∀ ws M, Calm (k ws M)) (hm : X.mg x = none) (hv : bootBuiltins x = some (.builtin id)) (ha : PA X (e :: es) (tL F Wx r)) (hg : Gl X x := by rfl) (hn : x ≠ "__name__" := by decide) (hdb : (x == ("__debug__" : Str)) = false := by decide)
    (he : starEach (e :: es) X.env = (false, eval e X.env) :: starEach es X.env := by rfl) (hpl : (backTo pos (starEach es X.env)).any (·.1) = false := by rfl) : PE X (.Call (.Name x p) (e :: es) [] pos) (tE F Wx (fApp r k)) := e_bi hc n hg hm hv ha hn hdb he hpl
theorem p_ty (z : Cz F Wx G C lv X) {x : Str} {T : String} {k : List W → Store → Out W} (hc : BiOk X F (.type T) k) (n : ∀ ws M, Calm (k ws M)) (hm : X.mg x = none) (hv : bootBuiltins x = some (.type T)) (ha : PA X (e :: es) (tL F Wx r)) (hg : Gl X x := by rfl) (hn : x ≠ "__name__" := by decide) (hdb : (x == ("__debug__" : Str)) = false := by decide)
    (he : starEach (e :: es) X.env = (false, eval e X.env) :: starEach es X.env := by rfl) (hpl : (backTo pos (starEach es X.env)).any (·.1) = false := by rfl) : PE X (.Call (.Name x p) (e :: es) [] pos) (tE F Wx (fApp r k)) := e_ty hc n hg hm hv ha hn hdb he hpl
/-- isinstance(a, T), T a built-in type -/
abbrev fIs (t : Ty) (f : FE) : FE := fU f fun w M => blO (isTy M w t) M
theorem p_isB (z : Cz F Wx G C lv X) {x : Str} {xp : Pos} (t : Ty) (ht : ∀ c, t ≠ .cls c) (hm : X.mg "isinstance" = none) (hm2 : X.mg x = none) (hv : bootBuiltins x = some (.type (tyName t))) (ha : PE X a (tE F Wx f)) (hg : Gl X "isinstance" := by rfl) (hg2 : Gl X x := by rfl) (hn : x ≠ "__name__" := by decide) (hdb : (x == ("__debug__" : Str)) = false := by decide)
    (hs : starEach [a, .Name x xp] X.env = (false, eval a X.env) :: starEach [.Name x xp] X.env := by rfl) (hpl : (backTo pos (starEach [.Name x xp] X.env)).any (·.1) = false := by rfl) :
    PE X (.Call (.Name "isinstance" p) [a, .Name x xp] [] pos) (tE F Wx (fIs t f)) := by
  refine PE.weak (pe_callB (call_isB z.ok.k ht) hg hm PyProof.Rows.boot_isinstance (pa_cons ha (pa_cons (pe_bltn hg2 hm2 hv (show RelV (.ty (tyName t)) (.type (tyName t)) from rfl) hn hdb) pa_nil) hs) (by decide) (by decide) hs hpl) fun τ H Q ⟨ρ, σ, M, rs, rg, q⟩ => ?_
  refine tE_bind rs rg q fun ρ1 w M1 v H1 x1 rs1 rg1 r1 q1 => ?_
  cases k : isTy M1 w t with
  | none => rw [k] at q1; exact q1.elim
  | some b =>
    rw [k] at q1
    exact ⟨ρ1, M1, w, v, b, rs1, r1, rfl, k, oK_ok q1 rs1 rfl⟩
/-- isinstance(a, C), C a frozen slotted class of the program -/
theorem p_isC (z : Cz F Wx G C lv X) {x : Str} {xp : Pos} {c : Nat} {D : Addr} (hf : IsiF F X c D) (hm : X.mg "isinstance" = none) (hm2 : X.mg x = some (.ref D)) (ha : PE X a (tE F Wx f)) (hg : Gl X "isinstance" := by rfl) (hg2 : Gl X x := by rfl) (hdb : (x == ("__debug__" : Str)) = false := by decide)
    (hs : starEach [a, .Name x xp] X.env = (false, eval a X.env) :: starEach [.Name x xp] X.env := by rfl) (hpl : (backTo pos (starEach [.Name x xp] X.env)).any (·.1) = false := by rfl) :
    PE X (.Call (.Name "isinstance" p) [a, .Name x xp] [] pos) (tE F Wx (fIs (.cls c) f)) := by
  refine PE.weak (pe_callB (call_isC z.ok.k hf) hg hm PyProof.Rows.boot_isinstance (pa_cons ha (pa_cons (pe_glob hg2 hm2 (show RelV (.ref D) (.ref D) from rfl) hdb) pa_nil) hs) (by decide) (by decide) hs hpl) fun τ H Q ⟨ρ, σ, M, rs, rg, q⟩ => ?_
  refine tE_bind rs rg q fun ρ1 w M1 v H1 x1 rs1 rg1 r1 q1 => ?_
  cases k : isTy M1 w (.cls c) with
  | none => rw [k] at q1; exact q1.elim
  | some b =>
    rw [k] at q1
    exact ⟨ρ1, M1, w, v, b, rs1, r1, rfl, k, oK_ok q1 rs1 rfl⟩
/-! ### fields, methods, new instances -/
abbrev fAttr (G : Gm) (C : Orc) (pu : Bool) (x : Str) (f : FE) : FE := fU f fun w M => Mp.getAttr G C pu w x M
/-- a field; no property -/
theorem p_fld (z : Cz F Wx G C lv X) {x : Str} (hp : ∀ c i, G.cls c = some i → i.props = []) (ha : PE X a (tE F Wx f)) (hb : attributeBase a x X.env (eval a X.env) = eval a X.env := by rfl) : PE X (.Attribute a x pos) (tE F Wx (fAttr G C false x f)) :=
  e_attr ha hb z.cls fun c i n hc hl => by rw [hp c i hc] at hl; cases hl
theorem p_prop (z : Cz F Wx G C lv X) {x : Str} (pu : Bool) (hP : ∀ c i n, G.cls c = some i → lookS x i.props = some n → ClsP F X C c x n ∧ n + 2 ≤ lv) (ha : PE X a (tE F Wx f)) (hb : attributeBase a x X.env (eval a X.env) = eval a X.env := by rfl) : PE X (.Attribute a x pos) (tE F Wx (fAttr G C pu x f)) :=
  e_attr ha hb z.cls fun c i n hc hl => ⟨(hP c i n hc hl).1, z.rm.mono (hP c i n hc hl).2⟩
abbrev fMeth (G : Gm) (u : List W → Store → Out W) (pu : Bool) (c : Nat) (m : Str) (f : FE) (r : FA) : FE := fun σ M => (f σ M).bind fun x M1 => match methOf G c M1 x m with | some k => (r σ M1).bind fun ws M2 => callC (fun _ => u) pu k (x :: ws) M2 | none => .fail
theorem p_meth (z : Cz F Wx G C lv X) (pu : Bool) {c n np : Nat} {m : Str} (cm : ClsM F X (fun _ => u) G c m n np) (ho : PE X o (tE F Wx f)) (ha : PA X (e :: es) (tL F Wx r)) (hn : n + 1 ≤ lv := by decide) (hbase : attributeBase o m X.env (eval o X.env) = eval o X.env := by rfl)
    (hfew : ((backTo pos (starEach (e :: es) X.env)).all (fun x => !x.1) && (backToKw pos (keywordEach [] X.env)).all (fun x => x.1.isSome) && decide ((e :: es).length + ([] : List Keyword).length + (if ([] : List Keyword).isEmpty then 0 else 1) < 30)) = true := by rfl) (hline : (apos.endLine == pos.line) = true := by rfl)
    (he : starEach (e :: es) X.env = (false, eval e X.env) :: starEach es X.env := by rfl) (hpl : (backTo pos (starEach es X.env)).any (·.1) = false := by rfl) : PE X (.Call (.Attribute o m apos) (e :: es) [] pos) (tE F Wx (fMeth G u pu c m f r)) :=
  e_meth z.tk cm (z.rm.mono hn) ho ha hbase hfew hline he hpl
abbrev fMeth0 (G : Gm) (u : List W → Store → Out W) (pu : Bool) (c : Nat) (m : Str) (f : FE) : FE := fun σ M => (f σ M).bind fun x M1 => match methOf G c M1 x m with | some k => callC (fun _ => u) pu k [x] M1 | none => .fail
theorem p_meth0 (z : Cz F Wx G C lv X) (pu : Bool) {c n np : Nat} {m : Str} (cm : ClsM F X (fun _ => u) G c m n np) (ho : PE X o (tE F Wx f)) (hn : n + 1 ≤ lv := by decide) (hbase : attributeBase o m X.env (eval o X.env) = eval o X.env := by rfl) (hline : (apos.endLine == pos.line) = true := by rfl) :
    PE X (.Call (.Attribute o m apos) [] [] pos) (tE F Wx (fMeth0 G u pu c m f)) := e_meth0 z.tk cm (z.rm.mono hn) ho hbase hline
abbrev fMake (G : Gm) (u : List W → Store → Out W) (c : Nat) (r : FA) : FE := fApp r fun ws M1 => newW G (fun _ => u) c ws M1
theorem p_make (z : Cz F Wx G C lv X) {c n np : Nat} {D : Addr} {x : Str} (cn : ClsN F X (fun _ => u) G c n np D) (hm : X.mg x = some (.ref D)) (ha : PA X (e :: es) (tL F Wx r)) (hn : n + 2 ≤ lv := by decide) (hg : Gl X x := by rfl) (hdb : (x == ("__debug__" : Str)) = false := by decide)
    (he : starEach (e :: es) X.env = (false, eval e X.env) :: starEach es X.env := by rfl) (hpl : (backTo pos (starEach es X.env)).any (·.1) = false := by rfl) : PE X (.Call (.Name x p) (e :: es) [] pos) (tE F Wx (fMake G u c r)) :=
  e_make z.tk cn (z.rm.mono hn) hg hm ha hdb he hpl
/-! ### comprehensions -/
abbrev fLc (fz : Bool) (own : List Nat) (t : Tg) (fi : FI) (fq : Sg → Store → Out Bool) (fe : FE) : FE := fun σ M => (fi σ M).bind fun xs M1 => (flatL (itemLc own (fun w σ M => asgT t w σ M) fq fe σ) xs M1).bind (mkL fz)
abbrev qT (f : FE) : Sg → Store → Out Bool := fun σ M => tstW (f σ M)
/-- the block's contexts -/
abbrev Blk (X : Cx) (scope : Scope) (T : Cx → Prop) : Prop := ∀ (s : Shared) (H : Hp) (C : Addr) (cl : List (Str × Addr)) (fp : List Addr), T (X.blk s H scope (compEnvC scope cl C X.env) fp)
theorem p_lc (z : Cz F Wx G C lv X) (fz : Bool) {elt tg iter : Expr} {ifs : List Expr} {scope : Scope} (own : List (Str × Nat)) {fi : FI} {is : List Nat} {t : Tg} {fq : Sg → Store → Out Bool} (hi : PI X tg iter (tI F Wx fi)) (ok : BlkOk X.N X.env.scope scope own) (his : ∀ i ∈ is, i ∈ own.map (·.2))
    (hg : Blk X scope fun Y => PG Y tg (tGW F is fun w σ M => asgT t w σ M)) (ht : Blk X scope fun Y => PTs Y ifs (tQ F WN fq)) (he : Blk X scope fun Y => PE Y elt (tE F WN f)) (hs : ∀ x, foldedSetIterable iter X.env x = pure x := by intro _; rfl) :
    PE X (.ListComp elt [⟨tg, iter, ifs, 0⟩] scope pos) (tE F Wx (fLc fz (own.map (·.2)) t fi fq f)) := e_lc z.calm z.nd hi ok his hg ht he hs
theorem p_ifs0 : PTs X [] (tQ F Wx yesQ) := pts_yes
theorem p_ifs1 (h : PT X c (Tst F Wx f)) : PTs X [c] (tQ F Wx (qT f)) := pts_one h
end
end Mp
set_option Elab.async false
set_option linter.all false
set_option maxRecDepth 100000
set_option maxHeartbeats 2000000
namespace Mp
open PySem PySem.Spec PyProof.Rows L2
/-- pairs of data as pairs of the heap -/
def RKv (F : Fx) (ρ : List Addr) (H : Hp) : List W → List (V × V) → Prop
  | [], [] => True
  | .kv k w :: r, p :: ps => Rp F ρ H k p.1 ∧ Rp F ρ H w p.2 ∧ RKv F ρ H r ps
  | _, _ => False
theorem RKv.monoB {F : Fx} {ρ ρ' : List Addr} {H H' : Hp} (x : ExtB ρ H ρ' H') : ∀ {ws : List W} {ps : List (V × V)}, RKv F ρ H ws ps → RKv F ρ' H' ws ps
  | [], [], _ => True.intro
  | .kv k w :: r, p :: ps, ⟨a, b, c⟩ => ⟨Rp.monoB x _ _ a, Rp.monoB x _ _ b, RKv.monoB x c⟩
  | [], _ :: _, h => h.elim
  | .kv _ _ :: _, [], h => h.elim
/-- the pairs of a display -/
abbrev dNil : FA := fun _ M => .ok [] M
abbrev dCons (fk fv : FE) (r : FA) : FA := fun σ M => (fk σ M).bind fun x M1 => (fv σ M1).bind fun y M2 => (r σ M2).bind fun es M3 => .ok (.kv x y :: es) M3
abbrev fDict (fz : Bool) (r : FA) : FE := fun σ M => (r σ M).bind (endDc fz [])
def tK (F : Fx) (Wx : WX) (r : FA) (τ : L2.St) (H : Hp) (Q : List (V × V) → Hp → Prop) : Prop := ∃ ρ σ M, RelS F ρ H M ∧ RelG F ρ H σ τ ∧ oK F (RKv F) (fun c d H' => Wx c d τ H') Q ρ H (r σ M)
structure PKs (F : Fx) (Wx : WX) (X : Cx) (pos : Pos) (keys : List (Option Expr)) (values : List Expr) (r : FA) : Prop where
  run : ∀ (pins : List (Addr × Obj)) (s : Shared) (τ : L2.St) (H : Hp) (Q : List (V × V) → Hp → Prop), Inv X pins τ H s → tK F Wx r τ H Q →
    wpAny (model X.prog X.w) X.A (evalPairs (pairTrees keys values X.env pos)) (fun us s' => ∃ ps H', Inv X pins τ H' s' ∧ VV ps us ∧ Q ps H') X.xe s
section
variable {F : Fx} {Wx : WX} {G : Gm} {C : Orc} {lv : Nat} {X : Cx} {pos : Pos} {k v : Expr} {ks : List (Option Expr)} {vs : List Expr} {fk fv : FE} {r : FA}
theorem p_kNil : PKs F Wx X pos [] [] dNil := ⟨fun pins s τ H Q I ⟨ρ, σ, M, rs, rg, q⟩ => pairTrees_nil_walk ⟨[], H, I, .nil, q ρ [] H Ext.refl rs True.intro⟩⟩
theorem p_kv (hk : PE X k (tE F Wx fk)) (hv : PE X v (tE F Wx fv)) (hr : PKs F Wx X pos ks vs r) : PKs F Wx X pos (some k :: ks) (v :: vs) (dCons fk fv r) := by
  refine ⟨fun pins s τ H Q I ⟨ρ, σ, M, rs, rg, q⟩ => pairTrees_cons_walk ?_⟩
  refine thn (hk.run pins s τ H (fun y H1 => tE F Wx fv τ H1 fun z H2 => tK F Wx r τ H2 fun ps H3 => Q ((y, z) :: ps) H3) I (tE_bind rs rg q fun ρ1 w1 M1 y H1 x1 rs1 rg1 r1 q1 => tE_bind rs1 rg1 q1 fun ρ2 w2 M2 z H2 x2 rs2 rg2 r2 q2 => ⟨ρ2, σ, M2, rs2, rg2, ?_⟩))
    fun u s1 ⟨y, H1, I1, ry, q1⟩ => thn (hv.run pins s1 τ H1 _ I1 q1) fun u2 s2 ⟨z, H2, I2, rz, q2⟩ => thn (hr.run pins s2 τ H2 _ I2 q2) fun us s3 ⟨ps, H3, I3, rel, q3⟩ => ⟨(y, z) :: ps, H3, I3, .cons ⟨ry, rz⟩ rel, q3⟩
  cases e : r σ M2 with
  | ok es M3 =>
    rw [e] at q2
    intro ρ3 ps H3 x3 rs3 r3
    exact q2 ρ3 ((y, z) :: ps) H3 x3 rs3 ⟨Rp.mono x3 _ _ (Rp.mono x2 _ _ r1), Rp.mono x3 _ _ r2, r3⟩
  | exc c es M3 => rw [e] at q2; exact q2
  | fail => rw [e] at q2; exact q2
theorem upd_upd {H : Hp} {D : Addr} {o o' : HO} : upd (upd H D o) D o' = upd H D o' := by
  funext b
  by_cases h : b = D
  · rw [h, upd_same, upd_same]
  · rw [upd_ne h, upd_ne h, upd_ne h]
theorem RKv.cons_inv {ρ : List Addr} {H : Hp} {w0 : W} {r : List W} {ps : List (V × V)} (h : RKv F ρ H (w0 :: r) ps) : ∃ k w p q, w0 = .kv k w ∧ ps = p :: q ∧ Rp F ρ H k p.1 ∧ Rp F ρ H w p.2 ∧ RKv F ρ H r q := by
  cases w0 with
  | kv k w =>
    cases ps with
    | nil => exact h.elim
    | cons p q => exact ⟨k, w, p, q, rfl, rfl, h.1, h.2.1, h.2.2⟩
  | _ => cases ps <;> exact h.elim
theorem RKv.nil_inv {ρ : List Addr} {H : Hp} {ps : List (V × V)} (h : RKv F ρ H [] ps) : ps = [] := by
  cases ps with
  | nil => rfl
  | cons _ _ => exact h.elim
/-- all pairs are stored, from the left -/
theorem sets_ok (ok : CxOk F X) {pins : List (Addr × Obj)} {τ : L2.St} {E : Value → Shared → Prop} {D : Addr} {Q : PUnit → Shared → Prop} {ρ : List Addr} (ws : List W) : ∀ (ps : List (V × V)) (us : List (Value × Value)) (s : Shared) (H : Hp) (es es' : List W) (ds : List DictEntry), Inv X pins τ H s → VV ps us → RKv F ρ H ws ps →
    H D = some (dicO D ds) → KDist es → RpE F ρ H es ds → putAll es ws = some es' → es'.length ≤ sizeLine → (∀ s' ds', Inv X pins τ (upd H D (dicO D ds')) s' → KDist es' → RpE F ρ (upd H D (dicO D ds')) es' ds' → Q PUnit.unit s') →
    wpAny (model X.prog X.w) X.A (forIn us PUnit.unit fun (x : Value × Value) (_ : PUnit) => (do dictSet D x.1 x.2; pure (ForInStep.yield PUnit.unit) : Sem (ForInStep PUnit))) Q E s := by
  induction ws with
  | nil =>
    intro ps us s H es es' ds I rel rr hD kd re hp hz h
    cases RKv.nil_inv rr
    cases rel
    cases hp
    rw [List.forIn_nil]
    have e : upd H D (dicO D ds) = H := by
      funext b
      by_cases z : b = D
      · rw [z, upd_same, hD]
      · rw [upd_ne z]
    exact wpAny_pure (h s ds (by rw [e]; exact I) kd (by rw [e]; exact re))
  | cons w0 r ih =>
    intro ps us s H es es' ds I rel rr hD kd re hp hz h
    obtain ⟨k, w, p, ps', rfl, rfl, rk, rw', rr'⟩ := RKv.cons_inv rr
    cases rel with
    | @cons _ u _ us' hd tl =>
      rw [List.forIn_cons]
      unfold putAll at hp
      cases e : putK es k w with
      | none => rw [e] at hp; cases hp
      | some acc =>
        rw [e] at hp
        dsimp only at hp
        unfold putK at e
        cases ka : keyOk 8 k with
        | false => rw [ka] at e; cases e
        | true =>
          rw [ka] at e
          cases e
          have hz2 : (putE k w es).length ≤ sizeLine := Nat.le_trans (putAll_len hp) hz
          refine wpAny_bind (wpAny_bind (dset_ok ok (Nx := fun H' => ∃ ds', H' = upd H D (dicO D ds') ∧ RpE F ρ H' (putE k w es) ds') I hd.1 hd.2 ⟨ρ, k, w, es, ds, hD, rk, rw', ka, re, kd, Nat.le_trans (putE_len ..).1 hz2, fun ds' re' => ⟨ds', rfl, RpE.monoB (ExtB.ownM hD True.intro (fun q => code_dic)) _ _ re'⟩⟩ fun s1 H1 I1 ⟨ds1, e1, re1⟩ => ?_))
          subst e1
          refine wpAny_pure ?_
          refine ih ps' us' _ _ _ es' ds1 I1 tl (RKv.monoB (ExtB.ownM hD True.intro (fun q => code_dic)) rr') upd_same (putE_dist ka kd) re1 hp hz fun s2 ds2 I2 kd2 re2 => ?_
          rw [upd_upd] at I2 re2
          exact h s2 ds2 I2 kd2 re2
theorem p_dict (z : Cz F Wx G C lv X) (fz : Bool) {keys : List (Option Expr)} {values : List Expr} (h : PKs F Wx X pos keys values r) (hall : keys.all (·.isSome) = true := by rfl) (hl : keys.length = values.length := by rfl) (h0 : keys.isEmpty = false := by rfl) (h15 : keys.length ≤ 15 := by decide) : PE X (.Dict keys values pos) (tE F Wx (fDict fz r)) := by
  have base : PE X (.Dict keys values pos) (fun τ H Q => ∀ D, H D = none → (D == sysModules) = false → tK F Wx r τ (upd H D (dicO D [])) fun ps H2 => ∃ ρ ws es ds, D ∉ ρ ∧ RKv F ρ H2 ws ps ∧ H2 D = some (dicO D []) ∧ putAll [] ws = some es ∧ es.length ≤ sizeLine ∧ (ds = ([] : List DictEntry)) ∧ ∀ ds', KDist es → RpE F ρ (upd H2 D (dicO D ds')) es ds' → Q (.ref D) (upd H2 D (dicO D ds'))) := by
    refine ⟨fun pins s τ H Q I q => ?_⟩
    have hn := I.hok.fresh (Nat.le_refl s.heap.objs.size)
    have hns := big_ne I.big
    rw [arm_eval_Dict, zip_pairTrees keys values X.env pos hall hl, dictDisplay_pairs _ (fun e => by
      have y := pairTrees_length keys values X.env pos hall hl
      rw [e] at y
      rw [List.isEmpty_eq_false_iff] at h0
      exact h0 (List.length_eq_zero_iff.mp y.symm)) (by rw [pairTrees_length keys values X.env pos hall hl]; omega)]
    refine wpAny_bind (wpAny_standAt (wpAny_bind ?_))
    unfold subDict
    refine wpAny_bind (wpAny_alloc (wpAny_bind (wpAny_holding ?_)))
    rw [if_pos (by rw [pairTrees_length keys values X.env pos hall hl]; exact h15)]
    have I1 : Inv X pins τ (upd H s.heap.objs.size (dicO s.heap.objs.size [])) { s with heap := s.heap.push { cls := .type "dict", data := .dict #[] } } := by
      refine I.laid (t' := s.toks) (fun _ _ q => Heap.get?_push_of_some _ q) (Nat.le_refl _) ?_
      exact ⟨⟨0, Heap.get?_push_size _ rfl⟩, ⟨_, Heap.get?_push_size _ rfl⟩, fun h1 h2 ⟨ep, e⟩ k => ⟨ep, k _ e⟩⟩
    refine wpAny_bind (thn (h.run pins _ τ _ _ I1 (q _ hn hns)) fun us s2 ⟨ps, H2, I2, rel, ρ, ws, es, ds, nD, rk, hD, hp, hz, _, q2⟩ => wpAny_holding (wpAny_bind ?_))
    exact sets_ok z.ok ws ps us s2 H2 [] es [] I2 rel rk hD True.intro rfl hp hz fun s3 ds' I3 kd re => wpAny_pure (wpAny_pure (wpAny_pure ⟨.ref s.heap.objs.size, _, I3, rfl, q2 ds' kd re⟩))
  refine PE.weak (PE.lockV base) fun τ H Q ⟨ρ, σ, M, rs, rg, q⟩ => ?_
  intro D hD hs
  refine ⟨ρ, σ, M, rs.upd0 hD, rg.mono (Ext.upd0 hD), ?_⟩
  have q : oK F (Rp F) (fun c d H' => Wx c d τ H') Q ρ H ((r σ M).bind (endDc fz [])) := q
  cases e : r σ M with
  | exc c es M1 =>
    rw [e] at q
    exact fun ρ' H' C' od x s' => q ρ' H' C' od ((Ext.upd0 hD).trans x) s'
  | fail => rw [e] at q; exact q
  | ok ws M1 =>
    rw [e] at q
    have q : oK F (Rp F) (fun c d H' => Wx c d τ H') Q ρ H (endDc fz [] ws M1) := q
    unfold endDc at q
    cases hp : putAll [] ws with
    | none => rw [hp] at q; exact q.elim
    | some es =>
      rw [hp] at q
      dsimp only at q
      intro ρ2 ps H2 x2 s2 rk
      have hD2 : (upd H D (dicO D [])) D = some (dicO D []) := upd_same
      have nD : D ∉ ρ2 := fun z => by
        have := x2.nw D z (rs.fresh hD)
        rw [hD2] at this; cases this
      have h2 : H2 D = some (dicO D []) := x2.fr D _ nD True.intro hD2
      have hz : es.length ≤ sizeLine := by
        unfold mkD at q
        cases hk : lenOk es.length with
        | true => exact lenOk_le hk
        | false => rw [hk] at q; exact q.elim
      refine ⟨ρ2, ws, es, [], nD, rk, h2, hp, hz, rfl, fun ds' kd re => ?_⟩
      exact give_dic q (Ext.ownM ((Ext.upd0 hD).trans x2) hD h2 True.intro (fun q => code_dic)) hD (s2.ownM nD h2 True.intro (fun q => code_dic)) nD hs upd_same kd re
end
end Mp
set_option Elab.async false
set_option linter.all false
set_option maxRecDepth 100000
set_option maxHeartbeats 2000000
namespace Mp
open PySem PySem.Spec PyProof.Rows L2
/-- entries whose keys are texts, as rows -/
def KvT (F : Fx) (ρ : List Addr) (H : Hp) : List W → List (Str × Value) → Prop
  | [], [] => True
  | .kv (.str x) v :: r, p :: t => p.1 = x ∧ (∃ y, RelV y p.2 ∧ Rp F ρ H v y) ∧ KvT F ρ H r t
  | _, _ => False
def txtKeys : List W → Bool
  | [] => true
  | .kv (.str _) _ :: r => txtKeys r
  | _ => false
section
variable {F : Fx} {ρ : List Addr} {H : Hp} {P : Program}
theorem txt_cons {w : W} {r : List W} (h : txtKeys (w :: r) = true) : ∃ x v, w = .kv (.str x) v ∧ txtKeys r = true := by
  cases w with
  | kv k v =>
    cases k with
    | str x => exact ⟨x, v, rfl, h⟩
    | _ => cases h
  | _ => cases h
theorem KvT.fst {es : List W} : ∀ {kvs : List (Str × Value)}, KvT F ρ H es kvs → ∀ p ∈ kvs, ∃ v, .kv (.str p.1) v ∈ es := by
  induction es with
  | nil =>
    intro kvs h p hp
    cases kvs with
    | nil => cases hp
    | cons _ _ => exact h.elim
  | cons w r ih =>
    intro kvs h p hp
    cases kvs with
    | nil => cases w with
      | kv k v => cases k <;> exact h.elim
      | _ => exact h.elim
    | cons q t =>
      cases w with
      | kv k v =>
        cases k with
        | str x =>
          obtain ⟨h1, _, h3⟩ := h
          rcases List.mem_cons.mp hp with e | hp
          · exact ⟨v, by rw [e, h1]; exact List.mem_cons_self⟩
          · obtain ⟨u, hu⟩ := ih h3 p hp
            exact ⟨u, List.mem_cons_of_mem _ hu⟩
        | _ => exact h.elim
      | _ => exact h.elim
theorem txt_rows {es : List W} : ∀ {ds : List DictEntry}, RpE F ρ H es ds → KDist es → txtKeys es = true → ∃ kvs, KvT F ρ H es kvs ∧ Pairs (strKind P F.w) ds kvs ∧ (∀ e ∈ ds, ∃ k, (strKind P F.w).is k e.key = true ∧ e.hash = (strKind P F.w).hash k) ∧ (kvs.map (·.1)).Nodup := by
  induction es with
  | nil =>
    intro ds h _ _
    cases (show ds = [] from h)
    exact ⟨[], True.intro, .nil, (fun e he => by cases he), List.nodup_nil⟩
  | cons w r ih =>
    intro ds h kd tx
    obtain ⟨x, v, rfl, tx⟩ := txt_cons tx
    obtain ⟨d, t, rfl, hh, ⟨z, rz, pz⟩, ⟨y, ry, py⟩, h3⟩ := h
    cases (show z = .str x from pz)
    obtain ⟨tk, hk⟩ := (show ∃ t, d.key = Value.str x t from rz)
    obtain ⟨kvs, k1, k2, k3, k4⟩ := ih h3 kd.2.2 tx
    refine ⟨(x, d.val) :: kvs, ⟨rfl, ⟨y, ry, py⟩, k1⟩, .cons (by rw [hk]; exact strKind_is P F.w x tk) rfl k2, fun e he => ?_, ?_⟩
    · rcases List.mem_cons.mp he with rfl | he
      · exact ⟨x, by rw [hk]; exact strKind_is P F.w x tk, hh⟩
      · exact k3 e he
    · rw [List.map_cons, List.nodup_cons]
      refine ⟨fun hm => ?_, k4⟩
      obtain ⟨p, hp, e⟩ := List.mem_map.mp hm
      obtain ⟨u, hu⟩ := k1.fst p hp
      have := kd.2.1 _ _ hu
      have e : p.1 = x := e
      rw [e] at this
      simp [keq] at this
theorem txt_back {es : List W} : ∀ {kvs : List (Str × Value)} {ds : List DictEntry}, KvT F ρ H es kvs → Pairs (strKind P F.w) ds kvs → (∀ e ∈ ds, ∃ k, (strKind P F.w).is k e.key = true ∧ e.hash = (strKind P F.w).hash k) → RpE F ρ H es ds := by
  induction es with
  | nil =>
    intro kvs ds h p _
    cases kvs with
    | nil => cases p; exact (rfl : ([] : List DictEntry) = [])
    | cons _ _ => exact h.elim
  | cons w r ih =>
    intro kvs ds h p hk
    cases kvs with
    | nil => cases w with
      | kv k v => cases k <;> exact h.elim
      | _ => exact h.elim
    | cons q t =>
      cases w with
      | kv k v =>
        cases k with
        | str x =>
          obtain ⟨h1, ⟨y, ry, py⟩, h3⟩ := h
          cases p with
          | @cons e _ ds' _ p1 p2 p3 =>
            obtain ⟨tk, ek⟩ := Value.isStrOf_shape p1
            obtain ⟨k', a1, a2⟩ := hk e List.mem_cons_self
            have ek' : k' = q.1 := (strKind P F.w).inj _ _ _ a1 p1
            refine ⟨e, ds', rfl, ?_, ⟨.str x, ?_, rfl⟩, ⟨y, by rw [p2]; exact ry, py⟩, ih h3 p3 fun e' he => hk e' (List.mem_cons_of_mem _ he)⟩
            · rw [a2, ek', h1]; rfl
            · rw [ek, h1]; exact ⟨tk, rfl⟩
        | _ => exact h.elim
      | _ => exact h.elim
end
section
variable {F : Fx} {X : Cx}
def rDOf (F : Fx) (P : Program) : List V → Hp → VK → Prop := fun xs H Q => ∃ p ds kvs, xs = [.ref p] ∧ (p == sysModules) = false ∧ SqD F.K H p ds ∧ Pairs (strKind P F.w) ds kvs ∧ (∀ e ∈ ds, ∃ k, (strKind P F.w).is k e.key = true ∧ e.hash = (strKind P F.w).hash k) ∧ (kvs.map (·.1)).Nodup ∧ kvs.length ≤ sizeLine ∧
  ∀ D ds', H D = none → (D == sysModules) = false → Pairs (strKind P F.w) ds' kvs → (∀ e ∈ ds', ∃ k, (strKind P F.w).is k e.key = true ∧ e.hash = (strKind P F.w).hash k) → Q (.ref D) (upd H D (dicO D ds'))
theorem call_dOf (ok : CxOk F X) : CallR X (.type "dict") (rDOf F X.prog) := by
  intro pins s τ H xs us Q I r ⟨p, ds, kvs, e0, h0, hq, hp, hk, hn, hz, q⟩
  subst e0
  obtain ⟨u, rfl, rx⟩ := vals1 r
  cases rx
  rw [ok.w] at hp hk q
  obtain ⟨ep, e⟩ := dict_at ok.k I hq
  have hd : s.heap.DictOf (strKind X.prog X.w) p kvs := ⟨dObj ds ep, ds.toArray, ep, e, ⟨rfl, rfl, rfl⟩, rfl, fun en he => hk en (by simpa using he), by simpa using hp, hn⟩
  refine kt_call_dict h0 hd hz fun h' hm hs => ?_
  obtain ⟨o, es, ep', g1, g2, g3, g4, g5, _⟩ := hm
  have ho : o = dObj es.toList ep' := by
    obtain ⟨c, d, dt, sl⟩ := o
    obtain ⟨a1, a2, a3⟩ := g2
    dsimp only at a1 a2 a3 g3
    subst a1 a2 a3 g3
    simp [dObj]
  have hns := big_ne I.big
  refine ⟨.ref s.heap.objs.size, _, I.laid (t' := s.toks) (o := dicO s.heap.objs.size es.toList) (fun b ob z => ?_) (Nat.le_refl _) ?_, rfl, q _ es.toList (I.hok.fresh (Nat.le_refl _)) hns g5 fun en he => g4 en (by simpa using he)⟩
  · exact (hs.2 b (Nat.ne_of_lt (Heap.lt_size z))).trans (Heap.get?_push_of_some _ z)
  · rw [ho] at g1
    exact ⟨⟨ep', g1⟩, ⟨_, g1⟩, fun h1 h2 ⟨e', z⟩ k => ⟨e', k _ z⟩⟩
def dictTW (fz : Bool) (w : W) (M : Store) : Out W := match dicOf M w with
  | some es => (match txtKeys es with
    | true => mkD fz es M
    | false => .fail)
  | none => .fail
theorem bi_dict (ok : CxOk F X) (fz : Bool) : BiOk X F (.type "dict") (g1 (dictTW fz)) := by
  refine bi1 (call_dOf ok) fun ρ M w v H Q rs r q => ?_
  unfold dictTW at q
  split at q
  · rename_i es e
    split at q
    · rename_i tx
      obtain ⟨p, ds, rfl, h0, h1, h2, kd, h3⟩ := dicOf_rel rs r e
      obtain ⟨kvs, k1, k2, k3, k4⟩ := txt_rows (P := X.prog) h3 kd tx
      have hl : kvs.length = ds.length := by
        have := k2.length
        omega
      refine ⟨p, ds, kvs, rfl, h0, h1, k2, k3, k4, by rw [hl, h3.len]; exact h2, fun D ds' hD hs p' k' => ?_⟩
      exact give_dic q (Ext.upd0 hD) hD (rs.upd0 hD) (rs.fresh hD) hs upd_same kd (RpE.mono (Ext.upd0 hD) _ _ (txt_back k1 p' k'))
    · exact q.elim
  · exact q.elim
end
end Mp
set_option Elab.async false
set_option linter.all false
set_option maxRecDepth 100000
set_option maxHeartbeats 2000000
namespace Mp
open PySem PySem.Spec PyProof.Rows L2
abbrev tle (x y : Str) : Prop := ltCps y.cps.toList x.cps.toList = false
theorem tle_iff {x y : Str} : tle x y ↔ ¬ y.cps.toList < x.cps.toList := by
  unfold tle
  rw [ltCps_eq, decide_eq_false_iff_not]
theorem tle_anti {x y : Str} (a : tle x y) (b : tle y x) : x = y := by
  have e : x.cps.toList = y.cps.toList := by
    have h1 := tle_iff.mp a
    have h2 := tle_iff.mp b
    exact List.le_antisymm (List.not_lt.mp h1) (List.not_lt.mp h2)
  obtain ⟨⟨x⟩⟩ := x
  obtain ⟨⟨y⟩⟩ := y
  simp only at e
  rw [e]
theorem tle_trans {x y z : Str} (a : tle x y) (b : tle y z) : tle x z := by
  rw [tle_iff] at a b ⊢
  exact List.not_lt.mpr (List.le_trans (List.not_lt.mp a) (List.not_lt.mp b))
theorem tle_total {x y : Str} (h : ¬ tle x y) : tle y x := by
  rw [tle_iff] at h ⊢
  intro z
  exact h fun w => absurd z (List.lt_asymm w)
def insT (x : Str) : List Str → List Str
  | [] => [x]
  | y :: r => match ltCps y.cps.toList x.cps.toList with
    | false => x :: y :: r
    | true => y :: insT x r
def sortT : List Str → List Str
  | [] => []
  | x :: r => insT x (sortT r)
theorem insT_perm (x : Str) : ∀ l : List Str, (insT x l).Perm (x :: l)
  | [] => .refl _
  | y :: r => by
    unfold insT
    split
    · exact .refl _
    · exact (List.Perm.cons y (insT_perm x r)).trans (List.Perm.swap x y r)
theorem sortT_perm : ∀ l : List Str, (sortT l).Perm l
  | [] => .refl _
  | x :: r => (insT_perm x (sortT r)).trans (List.Perm.cons x (sortT_perm r))
theorem insT_sorted (x : Str) : ∀ {l : List Str}, l.Pairwise tle → (insT x l).Pairwise tle
  | [], _ => List.pairwise_singleton _ _
  | y :: r, h => by
    unfold insT
    split
    · rename_i e
      refine List.pairwise_cons.mpr ⟨fun z hz => ?_, h⟩
      rcases List.mem_cons.mp hz with rfl | hz
      · exact e
      · exact tle_trans e ((List.pairwise_cons.mp h).1 z hz)
    · rename_i e
      have yx : tle y x := tle_total (by unfold tle; rw [e]; exact Bool.noConfusion)
      refine List.pairwise_cons.mpr ⟨fun z hz => ?_, insT_sorted x (List.pairwise_cons.mp h).2⟩
      rcases List.mem_cons.mp ((insT_perm x r).mem_iff.mp hz) with rfl | hz
      · exact yx
      · exact (List.pairwise_cons.mp h).1 z hz
theorem sortT_sorted : ∀ l : List Str, (sortT l).Pairwise tle
  | [] => .nil
  | x :: r => insT_sorted x (sortT_sorted r)
theorem rising_pair : ∀ (l : List Str) (p : Str), risingS p l = true → (p :: l).Pairwise tle
  | [], p, _ => List.pairwise_singleton _ _
  | x :: r, p, h => by
    have h' : (!ltCps x.cps.toList p.cps.toList && risingS x r) = true := h
    rw [Bool.and_eq_true, Bool.not_eq_true'] at h'
    have ih := rising_pair r x h'.2
    refine List.pairwise_cons.mpr ⟨fun z hz => ?_, ih⟩
    rcases List.mem_cons.mp hz with rfl | hz
    · exact h'.1
    · exact tle_trans h'.1 ((List.pairwise_cons.mp ih).1 z hz)
theorem sorted_pair {l : List Str} (h : sortedS l = true) : l.Pairwise tle := by
  cases l with
  | nil => exact .nil
  | cons x r => exact rising_pair r x h
theorem perm_eq : ∀ {l m : List Str}, l.Perm m → l.Pairwise tle → m.Pairwise tle → l = m
  | [], m, p, _, _ => (List.Perm.nil_eq p)
  | a :: r, m, p, h1, h2 => by
    cases m with
    | nil => exact absurd p.symm.nil_eq (by simp)
    | cons b t =>
      have e : a = b := by
        rcases List.mem_cons.mp (p.mem_iff.mp List.mem_cons_self) with e | ha
        · exact e
        · rcases List.mem_cons.mp (p.mem_iff.mpr (List.mem_cons_self : b ∈ b :: t)) with e | hb
          · exact e.symm
          · exact tle_anti ((List.pairwise_cons.mp h1).1 b hb) ((List.pairwise_cons.mp h2).1 a ha)
      subst e
      rw [perm_eq p.cons_inv (List.pairwise_cons.mp h1).2 (List.pairwise_cons.mp h2).2]
theorem sorted_is {xs ys : List Str} (p : ys.Perm xs) (h : sortedS ys = true) : ys = sortT xs := perm_eq (p.trans (sortT_perm xs).symm) (sorted_pair h) (sortT_sorted xs)
/-- the texts of a row of data -/
def txtsOf : List W → Option (List Str)
  | [] => some []
  | .str x :: r => (txtsOf r).map (x :: ·)
  | _ => none
theorem txts_map : ∀ {ws : List W} {xs : List Str}, txtsOf ws = some xs → ws = xs.map .str
  | [], xs, h => by cases h; rfl
  | w :: r, xs, h => by
    cases w with
    | str x =>
      unfold txtsOf at h
      cases e : txtsOf r with
      | none => rw [e] at h; cases h
      | some t => rw [e] at h; cases h; rw [txts_map e]; rfl
    | _ => cases h
def sortedTW (fz : Bool) (w : W) (M : Store) : Out W := match lstOf M w with
  | some ws => (match txtsOf ws with
    | some xs => (match Nat.blt xs.length 64 with
      | true => mkL fz ((sortT xs).map .str) M
      | false => .fail)
    | none => .fail)
  | none => .fail
section
variable {F : Fx} {X : Cx}
theorem rps_txt {ρ : List Addr} {H : Hp} : ∀ {xs : List Str} {vs : List V}, Rps F ρ H (xs.map .str) vs → vs = xs.map V.str
  | [], vs, h => h
  | x :: r, vs, ⟨v, t, e, h1, h2⟩ => by
    rw [e, rps_txt h2]
    cases (show v = .str x from h1)
    rfl
theorem txt_rps {ρ : List Addr} {H : Hp} : ∀ (xs : List Str), Rps F ρ H (xs.map .str) (xs.map V.str)
  | [] => rfl
  | x :: r => ⟨_, _, rfl, rfl, txt_rps r⟩
theorem bi_sorted (ok : CxOk F X) (fz : Bool) : BiOk X F (.builtin "sorted") (g1 (sortedTW fz)) := by
  refine bi1 cr_sortedS fun ρ M w v H Q rs r q => ?_
  unfold sortedTW at q
  split at q
  · rename_i ws e
    split at q
    · rename_i xs e2
      split at q
      · rename_i h64
        have hr := rd_RpR rs r
        unfold lstOf at e
        split at e
        · rename_i us z
          cases e
          rw [z] at hr
          obtain ⟨p, vs, rfl, h1, h2⟩ := hr.lst
          rw [txts_map e2] at h2
          rw [rps_txt h2] at h1
          refine ⟨p, xs, rfl, .inl h1, Nat.blt_eq.mp h64, fun ys p' hp hs hn => ?_⟩
          have ey := sorted_is hp hs
          subst ey
          exact (new_lst rs (txt_rps (F := F) (ρ := ρ) (H := H) (sortT xs)) q).2 p' hn
        · cases e
      · exact q.elim
    · exact q.elim
  · exact q.elim
end
end Mp
set_option Elab.async false
set_option linter.all false
set_option maxRecDepth 100000
set_option maxHeartbeats 2000000
namespace Mp
open PySem PySem.Spec PyProof.Rows L2 PySem.Froz
/-- the payload holds the texts l; its table rises and can be walked -/
structure TxR (P : Program) (w : World) (D : SD) (l : List Str) : Prop where
  ok : TxOk P w D l
  ris : Ris D.2.2.place.toList
  led : w.params.followText "set-order" = true ∨ D.2.2.led = true
theorem off_place (t : SetTable) : (if t.plain = true then { t with plain := false } else t).place = t.place ∧ (if t.plain = true then { t with plain := false } else t).led = t.led := by
  split <;> exact ⟨rfl, rfl⟩
theorem tail_ris {ep : Nat} {es : Array (Int × Value)} {t : SetTable} {b : Bool} (r : Ris t.place.toList) : Ris (tailTx ep es t b).2.2.place.toList := by
  unfold tailTx
  split
  · exact relayAll_ris _ _ _
  · exact r
theorem tail_led {ep : Nat} {es : Array (Int × Value)} {t : SetTable} {b : Bool} (r : t.led = true) : (tailTx ep es t b).2.2.led = true := by
  unfold tailTx
  split
  · exact (relayAll_led _ _ _).trans r
  · exact r
theorem TxR.add {P : Program} {w : World} {D : SD} {l : List Str} {k : Str} (u : Tok) (F : TxR P w D l) : TxR P w (addTx (hashStr w k) (.str k u) D) (k :: l) := by
  obtain ⟨es, ep, t⟩ := D
  obtain ⟨o1, o2⟩ := off_place (layNew t es (hashStr w k) (.str k u)).2.1
  refine ⟨add_ok u F.ok, tail_ris ?_, F.led.imp id fun z => tail_led ?_⟩
  · exact (congrArg (fun p : Array Nat => Ris p.toList) o1).mpr (layNew_ris t es (hashStr w k) (.str k u) F.ris)
  · exact o2.trans ((layNew_led t es (hashStr w k) (.str k u)).trans z)
section
variable {P : Program} {w : World} {A : Around} {E : Value → Shared → Prop} {s : Shared}
/-- a text that is there already -/
theorem dup_x {a : Addr} {T : String} {D : SD} {l : List Str} {k : Str} {u : Tok} {Q : Bool → Shared → Prop} (ho : s.heap.get? a = some (sObj T D)) (F : TxOk P w D l) (hk : k ∈ l) (hb : l.length < scanBound) (h : Q false s) :
    wpAny (model P w) A (setAddHashed a (.str k u) (hashStr w k)) Q E s := by
  obtain ⟨es, ep, t⟩ := D
  have few : es.size < scanBound := by
    have z : es.size = l.length := F.sz
    omega
  obtain ⟨e0, m0, q0⟩ := (F.mem k).mp hk
  unfold setAddHashed setAddHashedIn
  refine wpAny_holding (wpAny_bind (wpAny_setState_of ho rfl F.fit ?_))
  dsimp only
  rw [byScan_of rfl few F.el, if_pos rfl]
  unfold setAddByScan
  refine wpAny_bind (wpAny_bind (wpAny_rule (wpAny_bind (wpAny_setScan_of (knd := PySem.strKind P w) (k := k) (is_str k u) ho rfl F.fit F.el ?_))))
  cases e : List.findIdx? (fun e => (PySem.strKind P w).is k e.2) es.toList with
  | some j => exact wpAny_pure (wpAny_pure h)
  | none =>
    have z := List.findIdx?_eq_none_iff.mp e e0 m0
    rw [q0] at z
    cases z
/-- each text once, the last met ahead -/
def onceT (l : List Str) (x : Str) : List Str := if x ∈ l then l else x :: l
theorem put_x {a : Addr} {T : String} {D : SD} {l : List Str} {k : Str} {u : Tok} {Q : Bool → Shared → Prop} (ho : s.heap.get? a = some (sObj T D)) (F : TxR P w D l) (hb : l.length + 1 < scanBound)
    (h : ∀ h' D' b, Heap.SameBut a s.heap h' → h'.get? a = some (sObj T D') → TxR P w D' (onceT l k) → Q b { s with heap := h' }) : wpAny (model P w) A (setAddHashed a (.str k u) (hashStr w k)) Q E s := by
  by_cases m : k ∈ l
  · refine dup_x ho F.ok m (by omega) ?_
    exact h s.heap D false (Heap.SameBut.refl _ _) ho (by unfold onceT; rw [if_pos m]; exact F)
  · refine add_x ho F.ok m hb ?_
    exact h _ _ true (Heap.SameBut.update _ a _) (get_upd _ ho rfl) (by unfold onceT; rw [if_neg m]; exact F.add u)
theorem fresh_x {led : Bool} (e : led = !w.params.followText "set-order") : TxR P w (#[], 0, .fresh 0 0 led) [] := by
  refine ⟨TxOk.nil rfl, List.Pairwise.nil, ?_⟩
  show _ ∨ led = true
  rw [e]
  cases w.params.followText "set-order"
  · exact .inr rfl
  · exact .inl rfl
theorem once_len : ∀ (xs l : List Str), (xs.foldl onceT l).length ≤ l.length + xs.length
  | [], l => Nat.le_refl _
  | x :: r, l => by
    have h := once_len r (onceT l x)
    have h2 : (onceT l x).length ≤ l.length + 1 := by
      unfold onceT
      split
      · omega
      · exact Nat.le_refl _
    show (r.foldl onceT (onceT l x)).length ≤ l.length + (r.length + 1)
    omega
/-- the loop of set(row), the row's items texts -/
theorem loop_x {R : Result → Shared → Prop} {I : Addr} {fp wr : List Addr} {Gq : Array GenState → Array GenState → Prop} {n : Nat} {Pv : Nat → Value → Prop} {St : Nat → Shared → Prop} (W : WalksS P w A.in1 I fp wr Gq n Pv St) {S : Addr} (out : S ∉ fp) (xs : List Str) (hn : xs.length = n) (few : n + 1 < scanBound)
    (hv : ∀ i v, Pv i v → ∃ t, v = .str (xs.getD i Str.empty) t) (k : Nat) : ∀ (i : Nat) (s : Shared) (D : SD), n - i = k → i ≤ n → St i s → s.heap.get? S = some (sObj "set" D) → TxR P w D ((xs.take i).foldl onceT []) →
      (∀ s' D', Moved (S :: wr) Gq s s' → s'.heap.get? S = some (sObj "set" D') → TxR P w D' (xs.foldl onceT []) → R (.ok (.ret .none)) s') →
      codeAny (model P w) A (.builtin "set.update.loop" ⟨[.ref S, .ref I], []⟩) R s := by
  have nw : S ∉ wr := fun z => out (W.sub _ z)
  have sub : ∀ b ∈ wr, b ∈ S :: wr := fun b z => List.mem_cons_of_mem _ z
  induction k with
  | zero =>
    intro i s D hk hi st hS F fin
    obtain rfl : i = n := by omega
    refine codeAny_builtin PyProof.Rows.F.entry_set_update_loop ?_
    rw [Around.under_plainId PyProof.Rows.F.plain_set_update_loop _]
    refine wpAny_bind (W.done s _ _ st fun s1 mv => ?_)
    rw [List.take_of_length_le (by omega)] at F
    exact wpAny_pure (fin s1 D (mv.mono sub) (mv.heap S _ nw hS) F)
  | succ k ih =>
    intro i s D hk hi st hS F fin
    have lt : i < n := by omega
    refine codeAny_builtin PyProof.Rows.F.entry_set_update_loop ?_
    rw [Around.under_plainId PyProof.Rows.F.plain_set_update_loop _]
    refine wpAny_bind (W.item i s _ _ lt st fun v s1 pv st1 mv => ?_)
    obtain ⟨t, rfl⟩ := hv i v pv
    have hS1 := mv.heap S _ nw hS
    refine wpAny_bind (wpAny_holding ?_)
    unfold setAdd
    refine wpAny_holding (wpAny_bind ((PySem.strKind P w).pyHash (k := xs.getD i Str.empty) (is_str _ _) ?_))
    have hl := once_len (xs.take i) []
    have hl2 : (xs.take i).length ≤ i := List.length_take_le _ _
    refine put_x (s := { s1 with toks := s1.toks + 1 }) hS1 F (by simp at hl; omega) fun g2 D2 b sb hS2 F2 => ?_
    have e2 : onceT ((xs.take i).foldl onceT []) (xs.getD i Str.empty) = (xs.take (i + 1)).foldl onceT [] := by
      have hx : xs[i]? = some (xs.getD i Str.empty) := by rw [List.getD_eq_getElem?_getD, List.getElem?_eq_getElem (by omega)]; rfl
      rw [List.take_succ, hx, List.foldl_append]
      rfl
    rw [e2] at F2
    refine wpAny_pure ⟨plainId_quiet PyProof.Rows.F.plain_set_update_loop _, ih (i + 1) _ D2 (by omega) lt (W.frame _ s1 _ _ st1 (Nat.le_succ _) fun b hb o e => ?_) hS2 F2 fun s3 D3 mv3 hS3 F3 => ?_⟩
    · exact (sb.2 b fun z => out (z ▸ hb)).trans e
    · refine fin s3 D3 (Moved.trans W.gtrans ((mv.mono sub).then_heap (Nat.le_succ _) fun b o hb e => ?_) mv3) hS3 F3
      exact (sb.2 b fun z => hb (z ▸ List.mem_cons_self)).trans e
theorem new_x (a : Value) {Q₁ : Value → Shared → Prop} (h : Q₁ (.ref s.heap.objs.size) { s with heap := s.heap.push (sObj "set" (#[], 0, .fresh 0 0 (!w.params.followText "set-order"))) }) :
    codeAny (model P w) A (.call (.builtin "set.__new__") ⟨[.type "set", a], []⟩) (wants Q₁ E) s := by
  refine codeAny_of_tree ?_
  show wpAny _ A.in1 (checkBuiltinCall "set.__new__" ⟨[.type "set", a], []⟩ >>= fun _ => again (.builtin "set.__new__" ⟨[.type "set", a], []⟩)) _ _ s
  refine wpAny_bind (wpAny_of_eq (PySem.F.newCall_set_1 a) (wpAny_pure ⟨plainId_quiet PySem.F.plain_set_new _, codeAny_builtin PySem.F.entry_set_new ?_⟩))
  rw [Around.under_plainId PySem.F.plain_set_new _]
  unfold Builtin.«set.__new__» Builtin.Frozenset.newClass
  have isSub := sub_set_self
  obtain ⟨hp, g, d, tk, os⟩ := s
  dsimp only
  wp_walk
  refine wpAny_askSetting (wpAny_pure ?_)
  dsimp only
  simp only [newObj]
  refine wpAny_bind (wpAny_alloc (wpAny_pure (wpAny_pure h)))
set_option maxHeartbeats 4000000 in
/-- set(a): what its __init__ must do with the new set -/
theorem call_set1 {a : Value} {Q : Value → Shared → Prop}
    (hi : wpAny (model P w) A.in1.in1 (Builtin.«set.__init__» ⟨[.ref s.heap.objs.size, a], []⟩)
      (fun fin s' => match fin with | .done f => wants (fun r s₂ => r = .none ∧ Q (.ref s.heap.objs.size) s₂) E (.ok f) s' | .again c' => c'.quiet = true ∧ codeAny (model P w) A.in1 c' (wants (fun r s₂ => r = .none ∧ Q (.ref s.heap.objs.size) s₂) E) s')
      (fun e s' => wants (fun r s₂ => r = .none ∧ Q (.ref s.heap.objs.size) s₂) E (.error e) s') { s with heap := s.heap.push (sObj "set" (#[], 0, .fresh 0 0 (!w.params.followText "set-order"))) }) :
    wpAny (model P w) A (call (.type "set") [a]) Q E s := by
  have ft := PySem.F.called_set
  obtain ⟨c0, tl0, mro0⟩ := ft.mro
  have made0 := ft.made
  have sub0 := ft.sub
  have no0 := ft.notType
  have can0 := ft.canCreate
  have ct0 := PySem.F.typeCall_set_1 a
  refine wpAny_call (codeAny_of_tree ?_)
  show wpAny _ _ (callAny (.type "set") _) _ _ _
  refine wpAny_pure ⟨Code.quiet_builtin _ (by decide +kernel), codeAny_builtin PySem.F.entry_type_call ?_⟩
  rw [Around.under_plain (weight_type_call_type "set" [a] []) rfl]
  repeat any_goals first | assumption | wp_step
  refine codeAny_mono (new_x (E := E) (Q₁ := fun obj s₁ => obj = .ref s.heap.objs.size ∧ s₁ = { s with heap := s.heap.push (sObj "set" (#[], 0, .fresh 0 0 (!w.params.followText "set-order"))) }) a ⟨rfl, rfl⟩) fun r s₁ hr => ?_
  cases r with
  | error e => exact hr
  | ok fl =>
    cases fl with
    | ret obj =>
      obtain ⟨rfl, rfl⟩ := hr
      have typ : Shared.TypeIs { s with heap := s.heap.push (sObj "set" (#[], 0, .fresh 0 0 (!w.params.followText "set-order"))) } (.ref s.heap.objs.size) "set" := ⟨_, Heap.get?_push_size _ rfl, rfl⟩
      have look0 := ft.init.lookup
      have bind0 := ft.init.bind (.ref s.heap.objs.size)
      repeat any_goals first | assumption | wp_step
      refine codeAny_mono (codeAny_call_builtin ft.init.plain PySem.F.entry_set_init (check_set_init_1 typ hi)) fun r₂ s₂ hr₂ => ?_
      cases r₂ with
      | error e => exact hr₂
      | ok fl₂ =>
        cases fl₂ with
        | ret r =>
          obtain ⟨rfl, hq⟩ := hr₂
          repeat any_goals first | assumption | wp_step
        | _ => exact hr₂.elim
    | _ => exact hr.elim
end
end Mp
set_option Elab.async false
set_option linter.all false
set_option maxRecDepth 100000
set_option maxHeartbeats 4000000
namespace Mp
open PySem PySem.Spec PyProof.Rows L2 PySem.Froz
section
variable {P : Program} {w : World} {A : Around} {E : Value → Shared → Prop} {s : Shared}
/-- set(t), t a tuple of texts -/
theorem set_of_tup {l : Addr} {items : Array Value} {xs : List Str} {Q : Value → Shared → Prop} (hh : A.handled = none) (hl : s.heap.IsTuple l items) (hi : StrsAre items.toList xs) (few : xs.length + 1 < scanBound)
    (h : ∀ g2 tk D, g2.get? s.heap.objs.size = some (sObj "set" D) → TxR P w D (xs.foldl onceT []) → (∀ b o, s.heap.get? b = some o → g2.get? b = some o) → Q (.ref s.heap.objs.size) { s with heap := g2, toks := tk }) :
    wpAny (model P w) A (call (.type "set") [.ref l]) Q E s := by
  refine call_set1 ?_
  obtain ⟨o0, e0, d0⟩ : ∃ o0, s.heap.push (sObj "set" (#[], 0, .fresh 0 0 (!w.params.followText "set-order"))) = o0 ∧ True := ⟨_, rfl, trivial⟩
  have hS : (s.heap.push (sObj "set" (#[], 0, .fresh 0 0 (!w.params.followText "set-order")))).get? s.heap.objs.size = some (sObj "set" (#[], 0, .fresh 0 0 (!w.params.followText "set-order"))) := Heap.get?_push_size _ rfl
  have typ : Shared.TypeIs { s with heap := s.heap.push (sObj "set" (#[], 0, .fresh 0 0 (!w.params.followText "set-order"))) } (.ref s.heap.objs.size) "set" := ⟨_, hS, rfl⟩
  have hl1 : (s.heap.push (sObj "set" (#[], 0, .fresh 0 0 (!w.params.followText "set-order")))).IsTuple l items := hl.push _
  have at1 := hl1
  obtain ⟨ol, hol, hcl, nl, hdl⟩ := hl
  obtain ⟨oc, od, ot, os⟩ := ol
  dsimp only at hcl hdl
  subst hcl hdl
  have at2 : (s.heap.push (sObj "set" (#[], 0, .fresh 0 0 (!w.params.followText "set-order")))).get? l = some { cls := .type "tuple", dict := od, data := .seq items nl, slots := os } := Heap.get?_push_of_some _ hol
  have sub1 := PySem.F.sub_tuple_set
  have sub2 := PySem.F.sub_tuple_frozenset
  have ne1 : (Value.type "tuple" == Value.type "dict") = false := by decide
  unfold Builtin.«set.__init__» noKeywords Builtin.Frozenset.updateFrom
  generalize hPI : pyIter = PI
  wp_walk
  subst hPI
  refine wpAny_pyIter_tuple hl1 ?_
  refine wpAny_bind (wpAny_runValue ?_)
  have lS : l < s.heap.objs.size := Heap.lt_size hol
  have quiet : A.in1.in1.in1.handled = none := by simp [hh]
  have nI : l ≠ (s.heap.push (sObj "set" (#[], 0, .fresh 0 0 (!w.params.followText "set-order")))).objs.size := by
    rw [Heap.size_push]; exact Nat.ne_of_lt (Nat.lt_succ_of_lt lS)
  have hsz : xs.length = items.size := by rw [← StrsAre.len_eq hi, Array.length_toList]
  refine loop_x (W := (Walks.tuple quiet _ l nI items).toS) (S := s.heap.objs.size) (D := (#[], 0, .fresh 0 0 (!w.params.followText "set-order"))) ?_ xs hsz (by omega)
    (fun i v hv => SS.strs_at hi i v (by rw [Array.getElem?_toList]; exact hv)) (items.size - 0) 0 _ (by omega) (Nat.zero_le _) ⟨⟨_, Heap.get?_push_size _ rfl, rfl, rfl⟩, hl1.push _⟩ (Heap.get?_push_of_some _ hS) (fresh_x rfl) fun s1 D1 mv hS1 F1 => ?_
  · rw [Heap.size_push]
    simp only [List.mem_cons, List.not_mem_nil, or_false, not_or]
    exact ⟨Nat.ne_of_lt (Nat.lt_succ_self _), Nat.ne_of_gt lS⟩
  · obtain ⟨h1, g1, d1, t1, os1⟩ := s1
    have eg : g1 = s.gens := mv.gens
    have ed : d1 = s.drawn := mv.drawn
    have eo : os1 = s.os := mv.os
    subst eg ed eo
    refine wpAny_pure ?_
    show wpAny _ _ (ret Value.none) _ _ _
    refine wpAny_pure ⟨rfl, h h1 t1 D1 hS1 F1 fun b o e => ?_⟩
    have lb := Heap.lt_size e
    refine mv.heap b o ?_ (Heap.get?_push_of_some _ (Heap.get?_push_of_some _ e))
    rw [Heap.size_push]
    simp only [List.mem_cons, List.not_mem_nil, or_false, not_or]
    exact ⟨Nat.ne_of_lt lb, Nat.ne_of_lt (Nat.lt_succ_of_lt lb)⟩
end
end Mp
set_option Elab.async false
set_option linter.all false
set_option maxRecDepth 100000
set_option maxHeartbeats 4000000
namespace Mp
open PySem PySem.Spec PyProof.Rows L2 PySem.Froz
theorem once_nodup : ∀ (xs l : List Str), l.Nodup → (xs.foldl onceT l).Nodup
  | [], l, h => h
  | x :: r, l, h => by
    refine once_nodup r (onceT l x) ?_
    unfold onceT
    split
    · exact h
    · rename_i m
      exact List.nodup_cons.mpr ⟨m, h⟩
theorem perm_of_sub {α : Type} [DecidableEq α] : ∀ {l t : List α}, l.Nodup → (∀ x ∈ l, x ∈ t) → t.length ≤ l.length → l.Perm t
  | [], t, _, _, h => by
    have e : t = [] := List.length_eq_zero_iff.mp (Nat.le_zero.mp h)
    rw [e]
  | a :: r, t, nd, sb, h => by
    have ha := sb a List.mem_cons_self
    have p := List.perm_cons_erase ha
    refine List.Perm.trans (List.Perm.cons a ?_) p.symm
    obtain ⟨na, nr⟩ := List.nodup_cons.mp nd
    refine perm_of_sub nr (fun x hx => ?_) ?_
    · have ne : x ≠ a := fun z => na (z ▸ hx)
      exact (List.mem_erase_of_ne ne).mpr (sb x (List.mem_cons_of_mem _ hx))
    · have := p.length_eq
      simp only [List.length_cons] at this h
      omega
section
variable {P : Program} {w : World} {A : Around} {E : Value → Shared → Prop} {s : Shared}
theorem el_txt {es : List (Int × Value)} (h : ElemsOf (PySem.strKind P w) es) : ∀ v ∈ es.map (·.2), ∃ x t, v = .str x t := fun v hv => by
  obtain ⟨e, he, q⟩ := List.mem_map.mp hv
  obtain ⟨⟨k, hk, _⟩, _⟩ := h e he
  rw [q] at hk
  cases v with
  | str x t => exact ⟨x, t, rfl⟩
  | _ => cases hk
theorem txt_perm {D : SD} {l : List Str} (F : TxOk P w D l) (nd : l.Nodup) : ((D.1.toList.map (·.2)).map strOf).Perm l := by
  refine (perm_of_sub nd (fun x hx => ?_) ?_).symm
  · obtain ⟨e, he, q⟩ := (F.mem x).mp hx
    refine List.mem_map.mpr ⟨e.2, List.mem_map.mpr ⟨e, he, rfl⟩, ?_⟩
    obtain ⟨y, t, z⟩ := el_txt F.el e.2 (List.mem_map.mpr ⟨e, he, rfl⟩)
    rw [z] at q ⊢
    have q' : Value.isStrOf x (.str y t) = true := q
    simp only [Value.isStrOf] at q'
    exact beq_iff_eq.mp q'
  · rw [List.length_map, List.length_map, Array.length_toList]
    exact Nat.le_of_eq F.sz
/-- sorted(found), found a set of texts -/
theorem sorted_txt {a : Addr} {D : SD} {l : List Str} {Q : Value → Shared → Prop} (hh : A.handled = none) (ho : s.heap.get? a = some (sObj "set" D)) (F : TxR P w D l) (nd : l.Nodup) (h64 : l.length < 64)
    (hQ : ∀ s' p (out : Array Value) (c : Nat), (∀ b o, s.heap.get? b = some o → s'.heap.get? b = some o) → s'.gens = s.gens → s'.os = s.os → s.heap.objs.size ≤ p →
      s'.heap.get? p = some (seqObj "list" out c) → StrsAre out.toList (sortT l) → Q (.ref p) s') :
    wpAny (model P w) A (call (.builtin "sorted") [.ref a]) Q E s := by
  obtain ⟨es, ep, t⟩ := D
  have few : es.size < 64 := by
    have z : es.size = l.length := F.ok.sz
    omega
  refine Calls.call_function_entry kind_sorted plain_sorted entry_sorted (args_sorted1 _) ?_
  unfold Builtin.«sorted»
  have at1 : SetAt s.heap a es ep t := ⟨_, ho, rfl, rfl⟩
  refine wpAny_bind (m := checkCount "sorted" 1 1 _) (wpAny_pure ?_)
  refine wpAny_bind (collect_set (A := A.in1) hh at1 F.ok.fit (by unfold scanBound; omega) F.ris F.led fun s1 vs k1 hz g1 o1 pm => ?_)
  have hvl : vs.length = es.size := by rw [pm.length_eq, List.length_map, Array.length_toList]
  have hS : StrsAre vs (vs.map strOf) := strsAre_map vs fun v hv => el_txt F.ok.el v (pm.mem_iff.mp hv)
  have pl : (vs.map strOf).Perm l := (pm.map strOf).trans (txt_perm F.ok nd)
  refine wpAny_bind (wpAny_newList ?_ (by rw [hvl, sizeLine_eq]; omega))
  have hoL : (s1.heap.push (seqObj "list" vs.toArray 0)).get? s1.heap.objs.size = some (seqObj "list" vs.toArray 0) := Heap.get?_push_size _ rfl
  refine wpAny_bind (wpAny_holding (wpAny_call_entry slot_list_sort ⟨_, hoL, rfl⟩ entry_list_sort (list_sort_treeKAny strKind_oneLt hoL hS.keysOf (fun v₁ v₂ rest e => keyKind_strs (by rw [← e]; exact hS)) (by rw [hvl, sizeLine_eq]; omega) fun st' hp hs => ⟨_, rfl, ?_⟩) (args_list_sort _)))
  obtain ⟨ss', h1, h2, h3⟩ := sorted_out_str hS hp hs
  rw [sorted_is (h2.trans pl) h3] at h1
  obtain ⟨c, hc⟩ := sortedHeap_at (vs := vs) (out := (arrOf st').map (·.2)) hoL
  refine wpAny_pure ⟨_, rfl, hQ _ s1.heap.objs.size _ c (fun b u e => ?_) g1 o1 hz hc h1⟩
  have q := k1 b u e
  have hlt := Heap.lt_size q
  show (sortedHeap (s1.heap.push (seqObj "list" vs.toArray 0)) s1.heap.objs.size vs _).get? b = some u
  rw [sortedHeap_old (Nat.ne_of_lt hlt) (by rw [size_push']; exact Nat.lt_succ_of_lt hlt)]
  exact Heap.get?_push_of_some _ q
end
end Mp
set_option Elab.async false
set_option linter.all false
set_option maxRecDepth 100000
set_option maxHeartbeats 4000000
namespace Mp
open PySem PySem.Spec PyProof.Rows L2 PySem.Froz
section
variable {P : Program} {w : World} {A : Around} {E : Value → Shared → Prop} {s : Shared}
/-- set(t), t a list of texts -/
theorem set_of_lst {l : Addr} {items : Array Value} {xs : List Str} {Q : Value → Shared → Prop} (hh : A.handled = none) (hl : s.heap.IsList l items) (hi : StrsAre items.toList xs) (few : xs.length + 1 < scanBound)
    (h : ∀ g2 tk D, g2.get? s.heap.objs.size = some (sObj "set" D) → TxR P w D (xs.foldl onceT []) → (∀ b o, s.heap.get? b = some o → g2.get? b = some o) → Q (.ref s.heap.objs.size) { s with heap := g2, toks := tk }) :
    wpAny (model P w) A (call (.type "set") [.ref l]) Q E s := by
  refine call_set1 ?_
  obtain ⟨o0, e0, d0⟩ : ∃ o0, s.heap.push (sObj "set" (#[], 0, .fresh 0 0 (!w.params.followText "set-order"))) = o0 ∧ True := ⟨_, rfl, trivial⟩
  have hS : (s.heap.push (sObj "set" (#[], 0, .fresh 0 0 (!w.params.followText "set-order")))).get? s.heap.objs.size = some (sObj "set" (#[], 0, .fresh 0 0 (!w.params.followText "set-order"))) := Heap.get?_push_size _ rfl
  have typ : Shared.TypeIs { s with heap := s.heap.push (sObj "set" (#[], 0, .fresh 0 0 (!w.params.followText "set-order"))) } (.ref s.heap.objs.size) "set" := ⟨_, hS, rfl⟩
  have hl1 : (s.heap.push (sObj "set" (#[], 0, .fresh 0 0 (!w.params.followText "set-order")))).IsList l items := hl.push _
  have at1 := hl1
  obtain ⟨ol, hol, hcl, nl, hdl⟩ := hl
  obtain ⟨oc, od, ot, os⟩ := ol
  dsimp only at hcl hdl
  subst hcl hdl
  have at2 : (s.heap.push (sObj "set" (#[], 0, .fresh 0 0 (!w.params.followText "set-order")))).get? l = some { cls := .type "list", dict := od, data := .seq items nl, slots := os } := Heap.get?_push_of_some _ hol
  have sub1 := PySem.F.sub_list_set
  have sub2 := PySem.F.sub_list_frozenset
  have ne1 : (Value.type "list" == Value.type "dict") = false := by decide
  unfold Builtin.«set.__init__» noKeywords Builtin.Frozenset.updateFrom
  generalize hPI : pyIter = PI
  wp_walk
  subst hPI
  refine wpAny_pyIter_list hl1 ?_
  refine wpAny_bind (wpAny_runValue ?_)
  have lS : l < s.heap.objs.size := Heap.lt_size hol
  have quiet : A.in1.in1.in1.handled = none := by simp [hh]
  have nI : l ≠ (s.heap.push (sObj "set" (#[], 0, .fresh 0 0 (!w.params.followText "set-order")))).objs.size := by
    rw [Heap.size_push]; exact Nat.ne_of_lt (Nat.lt_succ_of_lt lS)
  have hsz : xs.length = items.size := by rw [← StrsAre.len_eq hi, Array.length_toList]
  refine loop_x (W := (Walks.list quiet _ l nI items).toS) (S := s.heap.objs.size) (D := (#[], 0, .fresh 0 0 (!w.params.followText "set-order"))) ?_ xs hsz (by omega)
    (fun i v hv => SS.strs_at hi i v (by rw [Array.getElem?_toList]; exact hv)) (items.size - 0) 0 _ (by omega) (Nat.zero_le _) ⟨⟨_, Heap.get?_push_size _ rfl, rfl, rfl⟩, hl1.push _⟩ (Heap.get?_push_of_some _ hS) (fresh_x rfl) fun s1 D1 mv hS1 F1 => ?_
  · rw [Heap.size_push]
    simp only [List.mem_cons, List.not_mem_nil, or_false, not_or]
    exact ⟨Nat.ne_of_lt (Nat.lt_succ_self _), Nat.ne_of_gt lS⟩
  · obtain ⟨h1, g1, d1, t1, os1⟩ := s1
    have eg : g1 = s.gens := mv.gens
    have ed : d1 = s.drawn := mv.drawn
    have eo : os1 = s.os := mv.os
    subst eg ed eo
    refine wpAny_pure ?_
    show wpAny _ _ (ret Value.none) _ _ _
    refine wpAny_pure ⟨rfl, h h1 t1 D1 hS1 F1 fun b o e => ?_⟩
    have lb := Heap.lt_size e
    refine mv.heap b o ?_ (Heap.get?_push_of_some _ (Heap.get?_push_of_some _ e))
    rw [Heap.size_push]
    simp only [List.mem_cons, List.not_mem_nil, or_false, not_or]
    exact ⟨Nat.ne_of_lt lb, Nat.ne_of_lt (Nat.lt_succ_of_lt lb)⟩
end
/-- the set of texts at a -/
def SetTO (P : Program) (w : World) (a : Addr) (l : List Str) : HO := .ext fun h => ∃ D, h.get? a = some (sObj "set" D) ∧ TxR P w D l
section
variable {F : Fx} {X : Cx}
def rSetT (P : Program) (w : World) (K : PySem.W.Frag) : List V → Hp → VK → Prop := fun vs H Q => ∃ (p : Addr) (xs : List Str), vs = [.ref p] ∧ (SqL K H p (xs.map V.str) ∨ SqT K H p (xs.map V.str)) ∧ xs.length + 1 < scanBound ∧
  ∀ a, H a = none → Q (.ref a) (upd H a (SetTO P w a (xs.foldl onceT [])))
theorem setTO_ok {w : World} {P : Program} {H : Hp} {h : Heap} {a : Addr} {D : SD} {l : List Str} (e : h.get? a = some (sObj "set" D)) (R : TxR P w D l) : ObjOk P w H h a (SetTO P w a l) :=
  ⟨⟨D, e, R⟩, ⟨_, e⟩, fun h1 h2 ⟨D', z, r⟩ k => ⟨D', k _ z, r⟩⟩
theorem cr_setT (hc : X.calm = true) : CallR X (.type "set") (rSetT X.prog X.w X.K) := by
  intro pins s τ H vs us Q I r ⟨p, xs, e0, hq, few, q⟩
  rw [e0] at r
  rw [Vals.ref1 r]
  rcases hq with hq | hq
  · obtain ⟨its, rv, hl, _⟩ := I.list hq
    refine set_of_lst (I.ok.hd hc) hl.isList rv.strs few fun g2 tk D e R k => ?_
    exact ⟨.ref s.heap.objs.size, _, I.laid (t' := tk) k (Nat.le_refl _) (setTO_ok e R), rfl, q _ (I.hok.fresh (Nat.le_refl _))⟩
  · obtain ⟨its, rv, hl, _⟩ := I.tuple hq
    refine set_of_tup (I.ok.hd hc) hl rv.strs few fun g2 tk D e R k => ?_
    exact ⟨.ref s.heap.objs.size, _, I.laid (t' := tk) k (Nat.le_refl _) (setTO_ok e R), rfl, q _ (I.hok.fresh (Nat.le_refl _))⟩
def rSortT (P : Program) (w : World) : List V → Hp → VK → Prop := fun vs H Q => ∃ (a : Addr) (l : List Str), vs = [.ref a] ∧ H a = some (SetTO P w a l) ∧ l.Nodup ∧ l.length < 64 ∧
  ∀ p, H p = none → Q (.ref p) (upd H p (.lst ((sortT l).map V.str)))
theorem cr_sortT (hc : X.calm = true) : CallR X (.builtin "sorted") (rSortT X.prog X.w) := by
  intro pins s τ H vs us Q I r ⟨a, l, e0, ha, nd, h64, q⟩
  rw [e0] at r
  rw [Vals.ref1 r]
  obtain ⟨D, e, R⟩ := (I.hok a _ ha).1
  refine sorted_txt (I.ok.hd hc) e R nd h64 fun s' p out c k g o hp hg hi => ?_
  have hlen : ((sortT l).map V.str).length ≤ sizeLine := by rw [List.length_map, (sortT_perm l).length_eq, sizeLine_eq]; omega
  have J : Inv X pins τ (upd H p (.lst ((sortT l).map V.str))) { s with heap := s'.heap, gens := s'.gens, drawn := s'.drawn, toks := s'.toks } :=
    I.call (ch := []) (Un.laid k hp (I.hok.fresh hp)) (I.hok.laid k hp ⟨hlen, out.toList, c, vals_of_strs hi, hg⟩) (by rw [g]; exact I.bare) (fun _ z => nomatch z)
  have es : { s with heap := s'.heap, gens := s'.gens, drawn := s'.drawn, toks := s'.toks } = s' := by
    obtain ⟨h1, g1, d1, t1, o1⟩ := s'
    have o2 : o1 = s.os := o
    rw [o2]
  rw [es] at J
  exact ⟨.ref p, _, J, rfl, q p (I.hok.fresh hp)⟩
end
end Mp
set_option Elab.async false
set_option linter.all false
set_option maxRecDepth 100000
set_option maxHeartbeats 4000000
namespace Mp
open PySem PySem.Spec PyProof.Rows L2 PySem.Froz
def sortedSetTW (fz : Bool) (w : W) (M : Store) : Out W := match seqOf M w with
  | some ws => (match txtsOf ws with
    | some xs => (match Nat.blt xs.length 64 with
      | true => mkL fz ((sortT (xs.foldl onceT [])).map .str) M
      | false => .fail)
    | none => .fail)
  | none => .fail
section
variable {F : Fx} {Wx : WX} {G : Gm} {C : Orc} {lv : Nat} {X : Cx} {p p2 pos pos2 : Pos} {e : Expr} {f : FE}
theorem rowS_rel (hK : F.K = X.K) {ρ : List Addr} {M : Store} {H : Hp} {w : W} {v : V} {ws : List W} {xs : List Str} (rs : RelS F ρ H M) (r : Rp F ρ H w v) (e : seqOf M w = some ws) (t : txtsOf ws = some xs) :
    ∃ q, v = .ref q ∧ (SqL X.K H q (xs.map V.str) ∨ SqT X.K H q (xs.map V.str)) := by
  have hr := rd_RpR rs r
  unfold seqOf at e
  split at e
  · rename_i us z
    cases e
    rw [z] at hr
    obtain ⟨q, vs, e0, h1, h2⟩ := hr.lst
    rw [txts_map t] at h2
    rw [rps_txt h2] at h1
    exact ⟨q, e0, .inl (.inl h1)⟩
  · rename_i us z
    cases e
    rw [z] at hr
    rcases hr with ⟨_, _, _, e, _⟩ | ⟨_, _, _, e, _⟩ | ⟨_, _, h⟩
    · cases e
    · cases e
    · obtain ⟨q, vs, e0, h1, h2⟩ := h
      rw [txts_map t] at h2
      rw [rps_txt h2] at h1
      rw [hK] at h1
      exact ⟨q, e0, .inr h1⟩
  · cases e
/-- sorted(set(e)), e's value a row of texts -/
theorem p_ss (z : Cz F Wx G C lv X) (fz : Bool) (hm : X.mg "sorted" = none) (hm2 : X.mg "set" = none) (he : PE X e (tE F Wx f)) (hg : Gl X "sorted" := by rfl) (hg2 : Gl X "set" := by rfl)
    (he1 : starEach [.Call (.Name "set" p2) [e] [] pos2] X.env = (false, eval (.Call (.Name "set" p2) [e] [] pos2) X.env) :: starEach [] X.env := by rfl) (hp1 : (backTo pos (starEach [] X.env)).any (·.1) = false := by rfl)
    (he2 : starEach [e] X.env = (false, eval e X.env) :: starEach [] X.env := by rfl) (hp2 : (backTo pos2 (starEach [] X.env)).any (·.1) = false := by rfl) :
    PE X (.Call (.Name "sorted" p) [.Call (.Name "set" p2) [e] [] pos2] [] pos) (tE F Wx (fU f (sortedSetTW fz))) := by
  refine PE.weak (PE.lockV (pe_callB (cr_sortT z.calm) hg hm PyProof.Rows.boot_sorted (pa_cons (pe_callTy (cr_setT z.calm) hg2 hm2 boot_set (pa_cons he pa_nil he2) (by decide) (by decide) he2 hp2) pa_nil he1) (by decide) (by decide) he1 hp1)) fun τ H Q ⟨ρ, σ, M, rs, rg, q⟩ => ?_
  refine tE_bind rs rg q fun ρ1 w M1 v H1 x1 rs1 rg1 r1 q1 => ?_
  unfold sortedSetTW at q1
  split at q1
  · rename_i ws ew
    split at q1
    · rename_i xs et
      split at q1
      · rename_i h64
        have h64' := Nat.blt_eq.mp h64
        obtain ⟨l, e0, hl⟩ := rowS_rel z.ok.k rs1 r1 ew et
        have hn := once_len xs []
        refine ⟨l, xs, by rw [e0], hl, by unfold scanBound; omega, fun a ha => ?_⟩
        refine ⟨a, _, rfl, upd_same, once_nodup xs [] List.nodup_nil, by simp at hn; omega, ?_⟩
        have x2 := Ext.upd0 (ρ := ρ1) (o := SetTO X.prog X.w a (xs.foldl onceT [])) ha
        exact (new_lst (rs1.upd0 ha) (txt_rps (F := F) (ρ := ρ1) (H := upd H1 a (SetTO X.prog X.w a (xs.foldl onceT []))) (sortT (xs.foldl onceT []))) (oK.mono q1 x2)).2
      · exact q1.elim
    · exact q1.elim
  · exact q1.elim
end
end Mp
set_option Elab.async false
set_option linter.all false
set_option maxRecDepth 100000
set_option maxHeartbeats 4000000
namespace Mp
open PySem PySem.Spec PyProof.Rows L2
theorem gm1_calm {f : W → W → Store → Out W} (h : ∀ a w M, Calm (f a w M)) : ∀ a ws M, Calm (gm1 f a ws M) := fun a ws M => by
  unfold gm1
  split
  · exact h _ _ _
  · exact fun _ _ _ z => nomatch z
theorem append_calm (a w : W) (M : Store) : Calm (appendW a w M) := by
  intro c es M' z
  unfold appendW at z
  repeat' split at z
  all_goals cases z
theorem extend_calm (a w : W) (M : Store) : Calm (extendW a w M) := by
  intro c es M' z
  unfold extendW at z
  repeat' split at z
  all_goals cases z
theorem index_calm (a w : W) (M : Store) : Calm (indexW a w M) := by
  intro c es M' z
  unfold indexW at z
  repeat' split at z
  all_goals cases z
/-- dict.get(k, d) -/
def gmGet : W → List W → Store → Out W := fun a ws M => match ws with
  | [k, d] => getW a k d M
  | _ => .fail
theorem get_calm (a : W) (ws : List W) (M : Store) : Calm (gmGet a ws M) := by
  intro c es M' z
  unfold gmGet getW at z
  repeat' split at z
  all_goals cases z
abbrev isLo (M : Store) (w : W) : Bool := (lstOf M w).isSome
abbrev isDo (M : Store) (w : W) : Bool := (dicOf M w).isSome
abbrev fBmt (chk : Store → W → Bool) (g : W → List W → Store → Out W) (f : FE) (r : FA) : FE := fun σ M => (f σ M).bind fun x M1 => match chk M1 x with | true => (r σ M1).bind fun ws M2 => g x ws M2 | false => .fail
section
variable {F : Fx} {Wx : WX} {G : Gm} {C : Orc} {lv : Nat} {X : Cx} {p p2 pos pos2 apos : Pos} {e o : Expr} {es : List Expr} {f fo : FE} {r : FA}
theorem p_append (z : Cz F Wx G C lv X) (ho : PE X o (tE F Wx fo)) (ha : PA X (e :: es) (tL F Wx r)) (hbase : attributeBase o "append" X.env (eval o X.env) = eval o X.env := by rfl)
    (hfew : ((backTo pos (starEach (e :: es) X.env)).all (fun x => !x.1) && (backToKw pos (keywordEach [] X.env)).all (fun x => x.1.isSome) && decide ((e :: es).length + ([] : List Keyword).length + (if ([] : List Keyword).isEmpty then 0 else 1) < 30)) = true := by rfl) (hline : (apos.endLine == pos.line) = true := by rfl)
    (he : starEach (e :: es) X.env = (false, eval e X.env) :: starEach es X.env := by rfl) (hpl : (backTo pos (starEach es X.env)).any (·.1) = false := by rfl) : PE X (.Call (.Attribute o "append" apos) (e :: es) [] pos) (tE F Wx (fBmt isLo (gm1 appendW) fo r)) :=
  e_bm z.ok.k PySem.F.plainAttrs_list PySem.F.slot_list_append PySem.F.type_list_append m_append (gm1_calm append_calm) (fun _ _ _ _ _ rs r h => isL rs r h) ho ha hbase hfew hline he hpl
theorem p_extend (z : Cz F Wx G C lv X) (ho : PE X o (tE F Wx fo)) (ha : PA X (e :: es) (tL F Wx r)) (hbase : attributeBase o "extend" X.env (eval o X.env) = eval o X.env := by rfl)
    (hfew : ((backTo pos (starEach (e :: es) X.env)).all (fun x => !x.1) && (backToKw pos (keywordEach [] X.env)).all (fun x => x.1.isSome) && decide ((e :: es).length + ([] : List Keyword).length + (if ([] : List Keyword).isEmpty then 0 else 1) < 30)) = true := by rfl) (hline : (apos.endLine == pos.line) = true := by rfl)
    (he : starEach (e :: es) X.env = (false, eval e X.env) :: starEach es X.env := by rfl) (hpl : (backTo pos (starEach es X.env)).any (·.1) = false := by rfl) : PE X (.Call (.Attribute o "extend" apos) (e :: es) [] pos) (tE F Wx (fBmt isLo (gm1 extendW) fo r)) :=
  e_bm z.ok.k PySem.F.plainAttrs_list PySem.F.slot_list_extend PySem.F.type_list_extend m_extend (gm1_calm extend_calm) (fun _ _ _ _ _ rs r h => isL rs r h) ho ha hbase hfew hline he hpl
theorem p_index (z : Cz F Wx G C lv X) (ho : PE X o (tE F Wx fo)) (ha : PA X (e :: es) (tL F Wx r)) (hbase : attributeBase o "index" X.env (eval o X.env) = eval o X.env := by rfl)
    (hfew : ((backTo pos (starEach (e :: es) X.env)).all (fun x => !x.1) && (backToKw pos (keywordEach [] X.env)).all (fun x => x.1.isSome) && decide ((e :: es).length + ([] : List Keyword).length + (if ([] : List Keyword).isEmpty then 0 else 1) < 30)) = true := by rfl) (hline : (apos.endLine == pos.line) = true := by rfl)
    (he : starEach (e :: es) X.env = (false, eval e X.env) :: starEach es X.env := by rfl) (hpl : (backTo pos (starEach es X.env)).any (·.1) = false := by rfl) : PE X (.Call (.Attribute o "index" apos) (e :: es) [] pos) (tE F Wx (fBmt isLo (gm1 indexW) fo r)) :=
  e_bm z.ok.k PySem.F.plainAttrs_list PySem.F.slot_list_index PySem.F.type_list_index m_index (gm1_calm index_calm) (fun _ _ _ _ _ rs r h => isL rs r h) ho ha hbase hfew hline he hpl
theorem p_get (z : Cz F Wx G C lv X) (ho : PE X o (tE F Wx fo)) (ha : PA X (e :: es) (tL F Wx r)) (hbase : attributeBase o "get" X.env (eval o X.env) = eval o X.env := by rfl)
    (hfew : ((backTo pos (starEach (e :: es) X.env)).all (fun x => !x.1) && (backToKw pos (keywordEach [] X.env)).all (fun x => x.1.isSome) && decide ((e :: es).length + ([] : List Keyword).length + (if ([] : List Keyword).isEmpty then 0 else 1) < 30)) = true := by rfl) (hline : (apos.endLine == pos.line) = true := by rfl)
    (he : starEach (e :: es) X.env = (false, eval e X.env) :: starEach es X.env := by rfl) (hpl : (backTo pos (starEach es X.env)).any (·.1) = false := by rfl) : PE X (.Call (.Attribute o "get" apos) (e :: es) [] pos) (tE F Wx (fBmt isDo gmGet fo r)) :=
  e_bm z.ok.k PySem.F.plainAttrs_dict PySem.F.slot_dict_get PySem.F.type_dict_get (m_get z.ok) get_calm (fun _ _ _ _ _ rs r h => isD rs r h) ho ha hbase hfew hline he hpl
/-! ### more comprehensions -/
variable {elt kx vx tg iter tg1 iter1 : Expr} {ifs : List Expr} {scope : Scope} {fi fi1 : FI} {is is1 vs1 : List Nat} {t t1 : Tg} {fq : Sg → Store → Out Bool} {fk fv fe : FE}
abbrev fDc (fz : Bool) (own : List Nat) (t : Tg) (fi : FI) (fq : Sg → Store → Out Bool) (fk fv : FE) : FE := fun σ M => (fi σ M).bind fun xs M1 => (flatL (itemDc own (fun w σ M => asgT t w σ M) fq fk fv σ) xs M1).bind (endDc fz [])
abbrev fL2 (fz : Bool) (own vs1 : List Nat) (t : Tg) (fi : FI) (t1 : Tg) (fi1 : FI) (fe : FE) : FE := fun σ M => (fi σ M).bind fun xs M1 => (flatL (itemL2 own vs1 (fun w σ M => asgT t w σ M) fi1 (fun w σ M => asgT t1 w σ M) fe σ) xs M1).bind (mkL fz)
theorem p_dc (z : Cz F Wx G C lv X) (fz : Bool) (own : List (Str × Nat)) (hi : PI X tg iter (tI F Wx fi)) (ok : BlkOk X.N X.env.scope scope own) (his : ∀ i ∈ is, i ∈ own.map (·.2)) (hg : Blk X scope fun Y => PG Y tg (tGW F is fun w σ M => asgT t w σ M))
    (ht : Blk X scope fun Y => PTs Y ifs (tQ F WN fq)) (hk : Blk X scope fun Y => PE Y kx (tE F WN fk)) (he : Blk X scope fun Y => PE Y vx (tE F WN fv)) (hs : ∀ x, foldedSetIterable iter X.env x = pure x := by intro _; rfl) :
    PE X (.DictComp kx vx [⟨tg, iter, ifs, 0⟩] scope pos) (tE F Wx (fDc fz (own.map (·.2)) t fi fq fk fv)) := e_dc z.ok z.calm z.nd hi ok his hg ht hk he hs
theorem p_l2 (z : Cz F Wx G C lv X) (fz : Bool) (own : List (Str × Nat)) (hi : PI X tg iter (tI F Wx fi)) (ok : BlkOk X.N X.env.scope scope own) (hv : ∀ i ∈ vs1, i ∈ own.map (·.2)) (his : ∀ i ∈ is, i ∈ own.map (·.2)) (his1 : ∀ i ∈ is1, i ∈ vs1)
    (hg : Blk X scope fun Y => PG Y tg (tGW F is fun w σ M => asgT t w σ M)) (hi1 : Blk X scope fun Y => PI Y tg1 iter1 (tI F WN fi1)) (hg1 : Blk X scope fun Y => PG Y tg1 (tGW F is1 fun w σ M => asgT t1 w σ M)) (he : Blk X scope fun Y => PE Y elt (tE F WN fe))
    (hs : ∀ x, foldedSetIterable iter X.env x = pure x := by intro _; rfl) (hs1 : ∀ env x, foldedSetIterable iter1 env x = pure x := by intro _ _; rfl) :
    PE X (.ListComp elt [⟨tg, iter, [], 0⟩, ⟨tg1, iter1, [], 0⟩] scope pos) (tE F Wx (fL2 fz (own.map (·.2)) vs1 t fi t1 fi1 fe)) := e_lc2 z.calm z.nd hi ok hv his his1 hg hi1 hg1 he hs hs1
/-! ### name = a comprehension, on one line -/
variable {i : Nat} {y : Str} {py spos : Pos}
abbrev sNm (i : Nat) (f : FE) : Sg → Store → SOut := fun σ M => (f σ M).st σ fun w M1 => .next (σ.set i (some w)) M1
theorem p_sLc (z : Cz F Wx G C lv X) (fz : Bool) (own : List (Str × Nat)) (hi : PI X tg iter (tI F Wx fi)) (ok : BlkOk X.N X.env.scope scope own) (his : ∀ i ∈ is, i ∈ own.map (·.2)) (hg : Blk X scope fun Y => PG Y tg (tGW F is fun w σ M => asgT t w σ M))
    (ht : Blk X scope fun Y => PTs Y ifs (tQ F WN fq)) (he : Blk X scope fun Y => PE Y elt (tE F WN fe)) (hy : X.N[i]? = some y := by rfl) (hyl : X.env.scope.names.lookup y = some .local := by rfl)
    (hsw : swapsWith (.ListComp elt [⟨tg, iter, ifs, 0⟩] scope pos) (some (.Name y py)) spos.line X.env = pure true := by rfl) (hs : ∀ x, foldedSetIterable iter X.env x = pure x := by intro _; rfl) :
    PS X (.Assign [.Name y py] (.ListComp elt [⟨tg, iter, ifs, 0⟩] scope pos) spos) (tS F Wx (sNm i (fLc fz (own.map (·.2)) t fi fq fe))) := s_setLc his (ps_setLc z.calm z.nd hy hyl hsw hi ok hg ht he hs)
theorem p_sDc (z : Cz F Wx G C lv X) (fz : Bool) (own : List (Str × Nat)) (hi : PI X tg iter (tI F Wx fi)) (ok : BlkOk X.N X.env.scope scope own) (his : ∀ i ∈ is, i ∈ own.map (·.2)) (hg : Blk X scope fun Y => PG Y tg (tGW F is fun w σ M => asgT t w σ M))
    (ht : Blk X scope fun Y => PTs Y ifs (tQ F WN fq)) (hk : Blk X scope fun Y => PE Y kx (tE F WN fk)) (he : Blk X scope fun Y => PE Y vx (tE F WN fv)) (hy : X.N[i]? = some y := by rfl) (hyl : X.env.scope.names.lookup y = some .local := by rfl)
    (hsw : swapsWith (.DictComp kx vx [⟨tg, iter, ifs, 0⟩] scope pos) (some (.Name y py)) spos.line X.env = pure true := by rfl) (hs : ∀ x, foldedSetIterable iter X.env x = pure x := by intro _; rfl) :
    PS X (.Assign [.Name y py] (.DictComp kx vx [⟨tg, iter, ifs, 0⟩] scope pos) spos) (tS F Wx (sNm i (fDc fz (own.map (·.2)) t fi fq fk fv))) := s_setDc z.ok z.calm z.nd hy hyl hsw hi ok his hg ht hk he hs
theorem p_sL2 (z : Cz F Wx G C lv X) (fz : Bool) (own : List (Str × Nat)) (hi : PI X tg iter (tI F Wx fi)) (ok : BlkOk X.N X.env.scope scope own) (hv : ∀ i ∈ vs1, i ∈ own.map (·.2)) (his : ∀ i ∈ is, i ∈ own.map (·.2)) (his1 : ∀ i ∈ is1, i ∈ vs1)
    (hg : Blk X scope fun Y => PG Y tg (tGW F is fun w σ M => asgT t w σ M)) (hi1 : Blk X scope fun Y => PI Y tg1 iter1 (tI F WN fi1)) (hg1 : Blk X scope fun Y => PG Y tg1 (tGW F is1 fun w σ M => asgT t1 w σ M)) (he : Blk X scope fun Y => PE Y elt (tE F WN fe))
    (hy : X.N[i]? = some y := by rfl) (hyl : X.env.scope.names.lookup y = some .local := by rfl) (hsw : swapsWith (.ListComp elt [⟨tg, iter, [], 0⟩, ⟨tg1, iter1, [], 0⟩] scope pos) (some (.Name y py)) spos.line X.env = pure true := by rfl)
    (hs : ∀ x, foldedSetIterable iter X.env x = pure x := by intro _; rfl) (hs1 : ∀ env x, foldedSetIterable iter1 env x = pure x := by intro _ _; rfl) :
    PS X (.Assign [.Name y py] (.ListComp elt [⟨tg, iter, [], 0⟩, ⟨tg1, iter1, [], 0⟩] scope pos) spos) (tS F Wx (sNm i (fL2 fz (own.map (·.2)) vs1 t fi t1 fi1 fe))) := s_setLc2 z.calm z.nd hy hyl hsw hi ok hv his his1 hg hi1 hg1 he hs hs1
end
end Mp
set_option Elab.async false
set_option linter.all false
set_option maxRecDepth 100000
set_option maxHeartbeats 4000000
namespace Mp
open PySem PySem.Spec PyProof.Rows L2
abbrev fDict0 (fz : Bool) : FE := fun σ M => mkD fz [] M
section
variable {F : Fx} {Wx : WX} {G : Gm} {C : Orc} {lv : Nat} {X : Cx} {pos : Pos}
theorem p_dict0 (z : Cz F Wx G C lv X) (fz : Bool) : PE X (.Dict [] [] pos) (tE F Wx (fDict0 fz)) := by
  have base : PE X (.Dict [] [] pos) (fun τ H Q => ∀ D, H D = none → (D == sysModules) = false → Q (.ref D) (upd H D (dicO D []))) := by
    refine ⟨fun pins s τ H Q I q => wpAny_Dict_empty ?_⟩
    have hb := big_ne I.big
    refine ⟨.ref s.heap.objs.size, _, I.laid (a := s.heap.objs.size) (o := dicO s.heap.objs.size []) (t' := s.toks) (fun _ _ e => Heap.get?_push_of_some _ e) (Nat.le_refl _) ?_, rfl, q _ (I.hok.fresh (Nat.le_refl _)) hb⟩
    exact ⟨⟨0, Heap.get?_push_size _ rfl⟩, ⟨_, Heap.get?_push_size _ rfl⟩, fun _ _ ⟨ep, e⟩ k => ⟨ep, k _ e⟩⟩
  refine PE.weak (PE.lockV base) fun τ H Q ⟨ρ, σ, M, rs, rg, q⟩ D hD hs => ?_
  have n : Calm (mkD fz [] M) := by
    intro c es M' z
    unfold mkD at z
    repeat' split at z
    all_goals cases z
  exact give_dic (E := noE) (oK_E (E' := noE) q n) (Ext.upd0 hD) hD (rs.upd0 hD) (rs.fresh hD) hs upd_same (es := []) (ds := []) True.intro rfl
end
end Mp
set_option Elab.async false
set_option linter.all false
set_option maxRecDepth 100000
set_option maxHeartbeats 4000000
namespace Mp
open PySem PySem.Spec PyProof.Rows L2
section
variable {P : Program} {w : World} {A : Around} {E : Value → Shared → Prop} {s : Shared} {zp ti to j1 j2 t0 : Addr} {fa fb : List Addr} {na nb i : Nat} {Pa Pb : Nat → Value → Prop} {Sa Sb : Nat → Heap → Prop} {b0 : Bool} {ob0 : Obj}
theorem zipK_item {Q : Value → Shared → Prop} (S : ZipSep2 zp ti to j1 j2 fa fb) (Da : Draws P w A j1 fa na Pa Sa) (Db : Draws P w A j2 fb nb Pb Sb)
    (hz : IsZipHeld s.heap zp ti to t0 b0) (h0 : s.heap.get? t0 = some ob0) (hti : IsTupOf2 s.heap ti (.ref j1) (.ref j2)) (sa : Sa i s.heap) (sb : Sb i s.heap) (la : i < na) (lb : i < nb)
    (fin : ∀ x y g tk, Pa i x → Pb i y → IsZipHeld g zp ti to t0 true → Sa (i + 1) g → Sb (i + 1) g → IsTupOf2 g s.heap.objs.size x y → g.objs.size = s.heap.objs.size + 1 →
      (∀ b o, b ≠ zp → b ≠ j1 → b ≠ j2 → s.heap.get? b = some o → g.get? b = some o) → Q (.ref s.heap.objs.size) { s with heap := g, toks := tk }) :
    wpAny (model P w) A (Builtin.«zip.__next__» ⟨[.ref zp], []⟩) (fun r s' => ∃ v, r = .done (.ret v) ∧ Q v s') E s := by
  show wpAny _ _ (field (.ref zp) 2 >>= _) _ _ _
  refine wpAny_bind (wpAny_field (x := .bool false) hz rfl rfl ?_)
  show wpAny _ _ (field (.ref zp) 3 >>= _) _ _ _
  refine wpAny_bind (wpAny_field (x := .ref ti) hz rfl rfl ?_)
  refine wpAny_bind (wpAny_seqItems hti rfl ?_)
  show wpAny _ _ (Builtin.SmallTypes.ownedTupleIsFree (.ref zp) >>= _) _ _ _
  refine wpAny_bind (wpAny_tupleHeld_zip hz h0 fun g1 z1 e1 => ?_)
  simp only [if_false, Bool.false_eq_true]
  refine wpAny_bind ?_
  rw [← Array.forIn_toList]
  simp only [List.forIn_nil, List.forIn_cons]
  refine wpAny_bind (wpAny_bind (wpAny_holding ?_))
  show wpAny _ _ (Builtin.SmallTypes.nextOf (.ref j1) >>= _) _ _ _
  refine wpAny_bind (Da.item i { s with heap := g1 } _ _ la (Da.over sa e1 S.zf1) fun x g2 k2 px sa2 e2 => wpAny_pure ?_)
  refine wpAny_pure ?_
  refine wpAny_bind (wpAny_bind (wpAny_holding ?_))
  show wpAny _ _ (Builtin.SmallTypes.nextOf (.ref j2) >>= _) _ _ _
  refine wpAny_bind (Db.item i { s with heap := g2, toks := k2 } _ _ lb (Db.over (Db.over sb e1 S.zf2) e2 S.sep1_2) fun y g3 k3 py sb3 e3 => wpAny_pure ?_)
  refine wpAny_pure (wpAny_pure ?_)
  show wpAny _ _ (newTuple [x, y] >>= _) _ _ _
  refine wpAny_bind (wpAny_newTuple ?_)
  replace e2 : Heap.SameBut j1 g1 g2 := e2
  replace e3 : Heap.SameBut j2 g2 g3 := e3
  have sz : g3.objs.size = s.heap.objs.size := by rw [e3.1, e2.1, e1.1]
  have z3 : IsZipHeld g3 zp ti to t0 true := e3.extBut _ _ S.zi2 (e2.extBut _ _ S.zi1 z1)
  have kp : ∀ b o, b ≠ zp → b ≠ j1 → b ≠ j2 → s.heap.get? b = some o → g3.get? b = some o := fun b o n1 n2 n3 q => e3.extBut _ _ n3 (e2.extBut _ _ n2 (e1.extBut _ _ n1 q))
  have sa3 : Sa (i + 1) g3 := Da.over sa2 e3 S.sep2_1
  refine wpAny_pure ⟨_, rfl, ?_⟩
  show Q (.ref g3.objs.size) _
  have tp : IsTupOf2 (g3.push { cls := .type "tuple", data := .seq #[x, y] }) g3.objs.size x y := Heap.get?_push_size _ rfl
  have sz4 : (g3.push { cls := .type "tuple", data := .seq #[x, y] }).objs.size = g3.objs.size + 1 := Heap.size_push ..
  rw [sz] at tp sz4 ⊢
  exact fin x y _ k3 px py (Heap.get?_push_of_some _ z3) (Da.frame _ _ _ sa3 fun _ _ _ q => Heap.get?_push_of_some _ q) (Db.frame _ _ _ sb3 fun _ _ _ q => Heap.get?_push_of_some _ q) tp sz4 fun b o n1 n2 n3 q => Heap.get?_push_of_some _ (kp b o n1 n2 n3 q)
theorem zipK_stop {Q : Fin → Shared → Prop} (S : ZipSep2 zp ti to j1 j2 fa fb) (Da : Draws P w A j1 fa na Pa Sa) (Db : Draws P w A j2 fb nb Pb Sb)
    (hz : IsZipHeld s.heap zp ti to t0 b0) (h0 : s.heap.get? t0 = some ob0) (hti : IsTupOf2 s.heap ti (.ref j1) (.ref j2)) (sa : Sa i s.heap) (sb : Sb i s.heap) (la : i ≤ na) (lb : i ≤ nb) (le : i = na ∨ i = nb)
    (fin : ∀ g tk e, (∀ b o, b ≠ zp → b ≠ j1 → b ≠ j2 → s.heap.get? b = some o → g.get? b = some o) → (∃ o, g.get? e = some o ∧ o.cls = .type "StopIteration") → E (.ref e) { s with heap := g, toks := tk }) :
    wpAny (model P w) A (Builtin.«zip.__next__» ⟨[.ref zp], []⟩) Q E s := by
  show wpAny _ _ (field (.ref zp) 2 >>= _) _ _ _
  refine wpAny_bind (wpAny_field (x := .bool false) hz rfl rfl ?_)
  show wpAny _ _ (field (.ref zp) 3 >>= _) _ _ _
  refine wpAny_bind (wpAny_field (x := .ref ti) hz rfl rfl ?_)
  refine wpAny_bind (wpAny_seqItems hti rfl ?_)
  show wpAny _ _ (Builtin.SmallTypes.ownedTupleIsFree (.ref zp) >>= _) _ _ _
  refine wpAny_bind (wpAny_tupleHeld_zip hz h0 fun g1 z1 e1 => ?_)
  simp only [if_false, Bool.false_eq_true]
  refine wpAny_bind ?_
  rw [← Array.forIn_toList]
  simp only [List.forIn_nil, List.forIn_cons]
  refine wpAny_bind (wpAny_bind (wpAny_holding ?_))
  show wpAny _ _ (Builtin.SmallTypes.nextOf (.ref j1) >>= _) _ _ _
  by_cases c : i < na
  · have lb2 : i = nb := by omega
    refine wpAny_bind (Da.item i { s with heap := g1 } _ _ c (Da.over sa e1 S.zf1) fun x g2 k2 px sa2 e2 => wpAny_pure ?_)
    refine wpAny_pure ?_
    refine wpAny_bind (wpAny_bind (wpAny_holding ?_))
    show wpAny _ _ (Builtin.SmallTypes.nextOf (.ref j2) >>= _) _ _ _
    have sb2 : Sb nb g2 := by rw [← lb2]; exact Db.over (Db.over sb e1 S.zf2) e2 S.sep1_2
    exact wpAny_bind (Db.done { s with heap := g2, toks := k2 } _ _ sb2 fun g3 e e3 he => fin g3 k2 e (fun b o n1 n2 n3 q => e3 _ _ n3 (e2.extBut _ _ n2 (e1.extBut _ _ n1 q))) he)
  · have la2 : i = na := by omega
    have sa2 : Sa na g1 := by rw [← la2]; exact Da.over sa e1 S.zf1
    exact wpAny_bind (Da.done { s with heap := g1 } _ _ sa2 fun g3 e e3 he => fin g3 s.toks e (fun b o n1 n2 n3 q => e3 _ _ n2 (e1.extBut _ _ n1 q)) he)
end
end Mp
set_option Elab.async false
set_option linter.all false
set_option maxRecDepth 100000
set_option maxHeartbeats 4000000
namespace Mp
open PySem PySem.Spec PyProof.Rows L2
/-- a zip that was asked i times, its first pair kept -/
def ZSt (zp ti to j1 j2 : Addr) (Sa Sb : Nat → Heap → Prop) (i : Nat) (h : Heap) : Prop :=
  IsTupOf2 h ti (.ref j1) (.ref j2) ∧ Sa i h ∧ Sb i h ∧ ((IsZip h zp ti to .none ∧ ∃ x y, IsTupOf2 h to x y) ∨ ∃ t0 b0 ob0, IsZipHeld h zp ti to t0 b0 ∧ h.get? t0 = some ob0)
section
variable {P : Program} {w : World} {A : Around} {E : Value → Shared → Prop} {s : Shared} {zp ti to j1 j2 t0 : Addr} {fa fb : List Addr} {na nb i : Nat} {Pa Pb : Nat → Value → Prop} {Sa Sb : Nat → Heap → Prop} {b0 : Bool} {ob0 : Obj}
theorem zipK_next {Q : Option Value → Shared → Prop} (S : ZipSep2 zp ti to j1 j2 fa fb) (Da : Draws P w A.in1 j1 fa na Pa Sa) (Db : Draws P w A.in1 j2 fb nb Pb Sb)
    (st : ZSt zp ti to j1 j2 Sa Sb i s.heap) (la : i < na) (lb : i < nb)
    (fin : ∀ x y g tk, Pa i x → Pb i y → ZSt zp ti to j1 j2 Sa Sb (i + 1) g → IsTupOf2 g s.heap.objs.size x y → g.objs.size = s.heap.objs.size + 1 →
      (∀ b o, b ≠ zp → b ≠ to → b ≠ j1 → b ≠ j2 → s.heap.get? b = some o → g.get? b = some o) → Q (some (.ref s.heap.objs.size)) { s with heap := g, toks := tk }) :
    wpAny (model P w) A (pyNext (.ref zp)) Q E s := by
  obtain ⟨hti, sa, sb, h⟩ := st
  rcases h with ⟨hz, x0, y0, hto⟩ | ⟨t0, b0, ob0, hz, h0⟩
  · refine wpAny_pyNext_zipD2_item S Da Db hz hti hto sa sb la lb fun x y g tk px py z1 _ sa1 sb1 hT sz kp => ?_
    exact fin x y g tk px py ⟨kp _ _ S.TIz S.TITO S.TIi1 S.TIi2 hti, sa1, sb1, .inr ⟨_, false, _, z1, hT⟩⟩ hT sz kp
  · have ty : s.TypeIs (.ref zp) "zip" := ⟨_, hz, rfl⟩
    have lt0 := Heap.lt_size h0
    unfold pyNext
    refine wpAny_bind (wpAny_attempt (wpAny_callSpecial?_slot (name := Str.ofString "__next__") ty PySem.F.slot_zip_next (wpAny_call_entry PySem.F.slot_zip_next ty PySem.F.entry_zip_next ?_ (PySem.F.args_zip_next_1 _))))
    refine zipK_item S Da Db hz h0 hti sa sb la lb fun x y g tk px py z1 sa1 sb1 hT sz kp => wpAny_pure ?_
    obtain ⟨o1, q1⟩ : ∃ o1, g.get? t0 = some o1 := by
      by_cases c : t0 = zp
      · subst c
        exact ⟨_, z1⟩
      · by_cases c1 : t0 = j1
        · subst c1
          exact Da.live _ _ sa1
        · by_cases c2 : t0 = j2
          · subst c2
            exact Db.live _ _ sb1
          · exact ⟨_, kp _ _ c c1 c2 h0⟩
    exact fin x y g tk px py ⟨kp _ _ S.TIz S.TIi1 S.TIi2 hti, sa1, sb1, .inr ⟨t0, true, o1, z1, q1⟩⟩ hT sz fun b o n1 _ n2 n3 q => kp b o n1 n2 n3 q
theorem zipK_end {Q : Option Value → Shared → Prop} (S : ZipSep2 zp ti to j1 j2 fa fb) (Da : Draws P w A.in1 j1 fa na Pa Sa) (Db : Draws P w A.in1 j2 fb nb Pb Sb)
    (st : ZSt zp ti to j1 j2 Sa Sb i s.heap) (la : i ≤ na) (lb : i ≤ nb) (le : i = na ∨ i = nb)
    (fin : ∀ g tk, (∀ b o, b ≠ zp → b ≠ to → b ≠ j1 → b ≠ j2 → s.heap.get? b = some o → g.get? b = some o) → Q none { s with heap := g, toks := tk }) :
    wpAny (model P w) A (pyNext (.ref zp)) Q E s := by
  obtain ⟨hti, sa, sb, h⟩ := st
  rcases h with ⟨hz, x0, y0, hto⟩ | ⟨t0, b0, ob0, hz, h0⟩
  · exact wpAny_pyNext_zipD2_end S Da Db hz hti hto sa sb la lb le fin
  · have ty : s.TypeIs (.ref zp) "zip" := ⟨_, hz, rfl⟩
    unfold pyNext
    refine wpAny_bind (wpAny_attempt (wpAny_callSpecial?_slot (name := Str.ofString "__next__") ty PySem.F.slot_zip_next (wpAny_call_entry PySem.F.slot_zip_next ty PySem.F.entry_zip_next ?_ (PySem.F.args_zip_next_1 _))))
    refine zipK_stop S Da Db hz h0 hti sa sb la lb le fun g tk e kp he => ?_
    obtain ⟨o, ho, hc⟩ := he
    refine wpAny_bind (wpAny_isInstance (T := "StopIteration") (b := true) ⟨o, ho, hc⟩ isSubtype_stop ?_)
    exact wpAny_pure (fin g tk fun b o n1 _ n2 n3 q => kp b o n1 n2 n3 q)
/-- what the list holds: new pairs -/
def PairsNew (base : Nat) (Pa Pb : Nat → Value → Prop) (acc : Array Value) (n : Nat) (h : Heap) : Prop :=
  acc.size = n ∧ (∀ j, j < n → ∃ T x y, acc[j]? = some (.ref T) ∧ base ≤ T ∧ Pa j x ∧ Pb j y ∧ IsTupOf2 h T x y) ∧ ∀ i j, i < j → j < n → acc[i]? ≠ acc[j]?
theorem zip_loop {R : Result → Shared → Prop} (S : ZipSep2 zp ti to j1 j2 fa fb) (Da : Draws P w A.in1.in1 j1 fa na Pa Sa) (Db : Draws P w A.in1.in1 j2 fb nb Pb Sb) {L : Addr} {res : Value} {base : Nat} (hn : min na nb ≤ sizeLine)
    (cz : zp < base) (ct : to < base) (cti : ti < base) (c1 : j1 < base) (c2 : j2 < base) (cL : L < base) (lz : L ≠ zp) (lt : L ≠ to) (lti : L ≠ ti) (l1 : L ∉ fa) (l2 : L ∉ fb) (k : Nat) :
    ∀ (i : Nat) (s : Shared) (acc : Array Value) (c : Nat), min na nb - i = k → i ≤ min na nb → base ≤ s.heap.objs.size → ZSt zp ti to j1 j2 Sa Sb i s.heap → s.heap.get? L = some (seqObj "list" acc c) → PairsNew base Pa Pb acc i s.heap →
      (∀ g tk acc' c', (∀ b o, b ≠ L → b ≠ zp → b ≠ to → b ≠ j1 → b ≠ j2 → s.heap.get? b = some o → g.get? b = some o) → g.get? L = some (seqObj "list" acc' c') → PairsNew base Pa Pb acc' (min na nb) g → R (.ok (.ret res)) { s with heap := g, toks := tk }) →
      codeAny (model P w) A (.builtin "list.extend.loop" ⟨[.ref L, .ref zp, res], []⟩) R s := by
  have L1 : L ≠ j1 := fun z => l1 (z ▸ S.mem1)
  have L2' : L ≠ j2 := fun z => l2 (z ▸ S.mem2)
  have nf : ∀ {q T : Addr}, q < base → base ≤ T → T ≠ q := fun h1 h2 => Nat.ne_of_gt (Nat.lt_of_lt_of_le h1 h2)
  induction k with
  | zero =>
    intro i s acc c hk hi hb st hL hp fin
    have e : i = min na nb := by omega
    refine codeAny_builtin PySem.F.entry_extend_loop ?_
    rw [Around.under_plainId PySem.F.plain_extend_loop _]
    refine wpAny_bind (zipK_end (A := A.in1) S Da Db st (by omega) (by omega) (by omega) fun g tk kp => wpAny_pure (fin g tk acc c (fun b o _ n1 n2 n3 n4 q => kp b o n1 n2 n3 n4 q) (kp L _ lz lt L1 L2' hL) ?_))
    rw [← e]
    refine ⟨hp.1, fun j hj => ?_, hp.2.2⟩
    obtain ⟨T, x, y, a1, a2, a3, a4, a5⟩ := hp.2.1 j hj
    exact ⟨T, x, y, a1, a2, a3, a4, kp T _ (nf cz a2) (nf ct a2) (nf c1 a2) (nf c2 a2) a5⟩
  | succ k ih =>
    intro i s acc c hk hi hb st hL hp fin
    refine codeAny_builtin PySem.F.entry_extend_loop ?_
    rw [Around.under_plainId PySem.F.plain_extend_loop _]
    refine wpAny_bind (zipK_next (A := A.in1) S Da Db st (by omega) (by omega) fun x y g tk px py st1 hT sz kp => ?_)
    have hL1 := kp L _ lz lt L1 L2' hL
    have up : ∀ b o, b ≠ L → g.get? b = some o → (g.update L (Obj.mapSeq (·.push (.ref s.heap.objs.size)))).get? b = some o := fun b o n q => (Heap.get?_update_other _ _ (Ne.symm n)).trans q
    obtain ⟨c', hL2⟩ : ∃ c', (g.update L (Obj.mapSeq (·.push (.ref s.heap.objs.size)))).get? L = some (seqObj "list" (acc.push (.ref s.heap.objs.size)) c') := ⟨_, Heap.get?_update_self _ hL1 rfl⟩
    show wpAny _ A.in1 (updateSeq L (·.push (.ref s.heap.objs.size)) >>= _) _ _ _
    refine wpAny_bind ?_
    refine wpAny_updateSeq hL1 rfl (wpAny_pure ⟨plainId_quiet PySem.F.plain_extend_loop _, ih (i + 1) _ (acc.push (.ref s.heap.objs.size)) c' (by omega) (by omega) ?_ ?_ hL2 ?_ fun g2 tk2 acc2 d2 kp2 hL3 hp2 => ?_⟩)
      (by rw [hp.1]; omega) (by show (acc.push (.ref s.heap.objs.size)).size ≤ sizeLine + 1; rw [Array.size_push, hp.1]; omega)
    · show base ≤ (g.update L _).objs.size
      rw [Heap.size_update, sz]
      omega
    · obtain ⟨b1, b2, b3, b4⟩ := st1
      refine ⟨up _ _ (Ne.symm lti) b1, Da.frame _ _ _ b2 fun b hb o q => up b o (fun z => l1 (z ▸ hb)) q, Db.frame _ _ _ b3 fun b hb o q => up b o (fun z => l2 (z ▸ hb)) q, ?_⟩
      rcases b4 with ⟨hz, x0, y0, hto⟩ | ⟨t0, b0, ob0, hz, h0⟩
      · exact .inl ⟨up _ _ (Ne.symm lz) hz, x0, y0, up _ _ (Ne.symm lt) hto⟩
      · by_cases z : t0 = L
        · exact .inr ⟨t0, b0, _, up _ _ (Ne.symm lz) hz, (congrArg (Heap.get? _) z).trans hL2⟩
        · exact .inr ⟨t0, b0, _, up _ _ (Ne.symm lz) hz, up _ _ z h0⟩
    · have at0 : ∀ j, j < i → (acc.push (.ref s.heap.objs.size))[j]? = acc[j]? := fun j hj => by rw [Array.getElem?_push, if_neg (by rw [hp.1]; omega)]
      have at1 : (acc.push (.ref s.heap.objs.size))[i]? = some (.ref s.heap.objs.size) := by rw [Array.getElem?_push, if_pos hp.1.symm]
      refine ⟨by rw [Array.size_push, hp.1], fun j hj => ?_, fun i' j hij hj => ?_⟩
      rotate_left
      · rw [at0 i' (by omega)]
        by_cases z : j < i
        · rw [at0 j z]
          exact hp.2.2 i' j hij z
        · have e : j = i := by omega
          rw [e, at1]
          obtain ⟨T, x', y', a1, a2, a3, a4, a5⟩ := hp.2.1 i' (by omega)
          rw [a1]
          intro q
          cases q
          exact Nat.lt_irrefl _ (Heap.lt_size a5)
      by_cases z : j < i
      · obtain ⟨T, x', y', a1, a2, a3, a4, a5⟩ := hp.2.1 j z
        refine ⟨T, x', y', ?_, a2, a3, a4, up _ _ (nf cL a2) (kp T _ (nf cz a2) (nf ct a2) (nf c1 a2) (nf c2 a2) a5)⟩
        rw [Array.getElem?_push, if_neg (by rw [hp.1]; omega)]
        exact a1
      · have e : j = i := by omega
        subst e
        refine ⟨s.heap.objs.size, x, y, ?_, hb, px, py, up _ _ (nf cL hb) hT⟩
        rw [Array.getElem?_push, if_pos hp.1.symm]
    · exact fin g2 tk2 acc2 d2 (fun b o n0 n1 n2 n3 n4 q => kp2 b o n0 n1 n2 n3 n4 (up b o n0 (kp b o n1 n2 n3 n4 q))) hL3 hp2
end
end Mp
set_option Elab.async false
set_option linter.all false
set_option maxRecDepth 100000
set_option maxHeartbeats 4000000
namespace Mp
open PySem PySem.Spec PyProof.Rows L2
theorem zip_noLen : typeLookup (.type "zip") "__len__" = pure none := am_miss_of_fast (by decide +kernel)
theorem zip_noHint : typeLookup (.type "zip") "__length_hint__" = pure none := am_miss_of_fast (by decide +kernel)
/-- a zip just made -/
structure ZNew (zp ti to j1 j2 : Addr) (Sa Sb : Nat → Heap → Prop) (h : Heap) : Prop where
  z : IsZip h zp ti to .none
  t : IsTupOf2 h ti (.ref j1) (.ref j2)
  o : ∃ x y, IsTupOf2 h to x y
  a : Sa 0 h
  b : Sb 0 h
/-- an address outside of a zip's cells -/
structure ZOut (L zp ti to : Addr) (fa fb : List Addr) : Prop where
  z : L ≠ zp
  o : L ≠ to
  t : L ≠ ti
  a : L ∉ fa
  b : L ∉ fb
section
variable {P : Program} {w : World} {A : Around} {E : Value → Shared → Prop} {s : Shared} {zp ti to j1 j2 : Addr} {fa fb : List Addr} {na nb : Nat} {Pa Pb : Nat → Value → Prop} {Sa Sb : Nat → Heap → Prop}
theorem ZNew.keep {h g : Heap} {L : Addr} (N : ZNew zp ti to j1 j2 Sa Sb h) (O : ZOut L zp ti to fa fb) (Da : Draws P w A j1 fa na Pa Sa) (Db : Draws P w A j2 fb nb Pb Sb) (k : ∀ b o, b ≠ L → h.get? b = some o → g.get? b = some o) : ZNew zp ti to j1 j2 Sa Sb g := by
  obtain ⟨z, t, ⟨x, y, o⟩, a, b⟩ := N
  exact ⟨k _ _ O.z.symm z, k _ _ O.t.symm t, ⟨x, y, k _ _ O.o.symm o⟩, Da.frame _ _ _ a fun c hc u q => k c u (fun e => O.a (e ▸ hc)) q, Db.frame _ _ _ b fun c hc u q => k c u (fun e => O.b (e ▸ hc)) q⟩
/-- list.extend(z) of an empty list -/
theorem extend_zip {R : Result → Shared → Prop} (S : ZipSep2 zp ti to j1 j2 fa fb) (Da : Draws P w A.in1.in1 j1 fa na Pa Sa) (Db : Draws P w A.in1.in1 j2 fb nb Pb Sb) {L : Addr} {res : Value} {base c : Nat} (hn : min na nb ≤ sizeLine)
    (cz : zp < base) (ct : to < base) (cti : ti < base) (c1 : j1 < base) (c2 : j2 < base) (cL : L < base) (O : ZOut L zp ti to fa fb) (hb : base ≤ s.heap.objs.size) (N : ZNew zp ti to j1 j2 Sa Sb s.heap) (hL : s.heap.get? L = some (seqObj "list" #[] c))
    (fin : ∀ g tk acc' c', (∀ b o, b ≠ L → b ≠ zp → b ≠ to → b ≠ j1 → b ≠ j2 → s.heap.get? b = some o → g.get? b = some o) → g.get? L = some (seqObj "list" acc' c') → PairsNew base Pa Pb acc' (min na nb) g → R (.ok (.ret res)) { s with heap := g, toks := tk }) :
    wpAny (model P w) A.in1 (Builtin.List.listExtendWith (.ref L) (.ref zp) res)
      (fun r s' => match r with | .done f => R (.ok f) s' | .again c' => c'.quiet = true ∧ codeAny (model P w) A c' R s') (fun e s' => R (.error e) s') s := by
  have ty : s.TypeIs (.ref zp) "zip" := ⟨_, N.z, rfl⟩
  unfold Builtin.List.listExtendWith
  refine wpAny_bind (wpAny_typeOf ty ?_)
  have q1 : Builtin.List.listSameRef (.ref L) (.ref zp) = false := by simp [Builtin.List.listSameRef, O.z]
  have q2 : (Value.type "zip" == Value.type "list") = false := by decide
  have q3 : (Value.type "zip" == Value.type "tuple") = false := by decide
  simp only [q1, q2, q3, Bool.or_false, Bool.false_eq_true, if_false]
  refine wpAny_bind (wpAny_pyIter_zip N.z ?_)
  refine wpAny_bind (wpAny_holding ?_)
  unfold Builtin.List.listLengthHint
  refine wpAny_bind (wpAny_specialOf ty zip_noLen ?_)
  show wpAny _ A.in1 (specialOf (Value.ref zp) (Str.ofString "__length_hint__") >>= _) _ _ _
  refine wpAny_bind (wpAny_specialOf ty zip_noHint ?_)
  refine wpAny_pure ?_
  show wpAny _ A.in1 (rule "list.extend.makes-room" >>= fun _ => Builtin.List.listTouch (.ref L) >>= fun _ => again (.builtin "list.extend.loop" ⟨[.ref L, .ref zp, res], []⟩)) _ _ _
  refine wpAny_bind (wpAny_rule (wpAny_bind ?_))
  show wpAny _ A.in1 (updateSeq L (·.push .none) >>= fun _ => updateSeq L (·.pop)) _ _ _
  refine wpAny_bind (wpAny_updateSeq hL rfl ?_)
  have hL2 := Heap.get?_update_self (Obj.mapSeq (·.push Value.none)) hL rfl
  refine wpAny_updateSeq (hz := by seq_fits) hL2 rfl ?_
  have hL3 := Heap.get?_update_self (Obj.mapSeq (·.pop)) hL2 rfl
  have up : ∀ b o, b ≠ L → s.heap.get? b = some o → ((s.heap.update L (Obj.mapSeq (·.push Value.none))).update L (Obj.mapSeq (·.pop))).get? b = some o :=
    fun b o n q => (Heap.get?_update_other _ _ (Ne.symm n)).trans ((Heap.get?_update_other _ _ (Ne.symm n)).trans q)
  have N2 := N.keep O Da Db up
  refine wpAny_pure ⟨plainId_quiet PySem.F.plain_extend_loop _, zip_loop S Da Db hn cz ct cti c1 c2 cL O.z O.o O.t O.a O.b _ 0 _ #[] _ rfl (Nat.zero_le _) ?_ ⟨N2.t, N2.a, N2.b, .inl ⟨N2.z, N2.o⟩⟩ hL3 ⟨rfl, fun j hj => absurd hj (Nat.not_lt_zero _), fun _ j _ hj => absurd hj (Nat.not_lt_zero _)⟩ fun g tk acc' c' kp hg hp => ?_⟩
  · show base ≤ ((s.heap.update L _).update L _).objs.size
    rw [Heap.size_update, Heap.size_update]
    exact hb
  · exact fin g tk acc' c' (fun b o n0 n1 n2 n3 n4 q => kp b o n0 n1 n2 n3 n4 (up b o n0 q)) hg hp
/-- list(z) -/
theorem list_zip {Q : Value → Shared → Prop} (S : ZipSep2 zp ti to j1 j2 fa fb) (Da : Draws P w A.in1.in1.in1 j1 fa na Pa Sa) (Db : Draws P w A.in1.in1.in1 j2 fb nb Pb Sb) (hn : min na nb ≤ sizeLine) (ha : ∀ b ∈ fa, b < s.heap.objs.size) (hb : ∀ b ∈ fb, b < s.heap.objs.size) (N : ZNew zp ti to j1 j2 Sa Sb s.heap)
    (fin : ∀ g tk acc' c', (∀ b o, b ≠ zp → b ≠ to → b ≠ j1 → b ≠ j2 → s.heap.get? b = some o → g.get? b = some o) → g.get? s.heap.objs.size = some (seqObj "list" acc' c') → PairsNew (s.heap.objs.size + 1) Pa Pb acc' (min na nb) g → Q (.ref s.heap.objs.size) { s with heap := g, toks := tk }) :
    wpAny (model P w) A (call (.type "list") [.ref zp]) Q E s := by
  have cz := Heap.lt_size N.z
  have cti := Heap.lt_size N.t
  obtain ⟨x0, y0, hto⟩ := N.o
  have ct := Heap.lt_size hto
  have c1 := ha _ S.mem1
  have c2 := hb _ S.mem2
  have O : ZOut s.heap.objs.size zp ti to fa fb := ⟨Nat.ne_of_gt cz, Nat.ne_of_gt ct, Nat.ne_of_gt cti, fun m => Nat.lt_irrefl _ (ha _ m), fun m => Nat.lt_irrefl _ (hb _ m)⟩
  refine callType_codes (Q₁ := fun obj s₁ => obj = .ref s.heap.objs.size ∧ s₁ = { s with heap := s.heap.push { cls := .type "list", data := .seq #[] } }) PySem.F.called_list (PySem.F.typeCall_list_1 _) PySem.F.entry_list_init (code_list_new _ ⟨rfl, rfl⟩) fun obj s₁ h₁ => ?_
  obtain ⟨rfl, rfl⟩ := h₁
  have hL : (s.heap.push { cls := .type "list", data := .seq #[] }).get? s.heap.objs.size = some (seqObj "list" #[] 0) := Heap.get?_push_size _ rfl
  refine ⟨⟨_, hL, rfl⟩, PySem.F.args_list_init_2 _ _, ?_⟩
  show wpAny _ A.in1.in1 (do let old ← Builtin.List.listItems (.ref s.heap.objs.size); Builtin.List.listUpdate (.ref s.heap.objs.size) (fun _ => #[]); letGo old.toList.reverse; Builtin.List.listExtendWith (.ref s.heap.objs.size) (.ref zp) .none) _ _ _
  refine wpAny_bind ?_
  unfold Builtin.List.listItems
  refine wpAny_bind (wpAny_seqItems hL rfl (wpAny_pure ?_))
  show wpAny _ A.in1.in1 (updateSeq s.heap.objs.size (fun _ => #[]) >>= fun _ => letGo (#[] : Array Value).toList.reverse >>= fun _ => Builtin.List.listExtendWith (.ref s.heap.objs.size) (.ref zp) .none) _ _ _
  refine wpAny_bind (wpAny_updateSeq hL rfl ?_)
  have hL2 := Heap.get?_update_self (Obj.mapSeq (fun _ => (#[] : Array Value))) hL rfl
  have up : ∀ b o, b ≠ s.heap.objs.size → s.heap.get? b = some o → ((s.heap.push { cls := .type "list", data := .seq #[] }).update s.heap.objs.size (Obj.mapSeq (fun _ => (#[] : Array Value)))).get? b = some o :=
    fun b o n q => (Heap.get?_update_other _ _ (Ne.symm n)).trans (Heap.get?_push_of_some _ q)
  refine wpAny_bind (wpAny_letGo ?_)
  have lt1 : ∀ {b : Addr}, b < s.heap.objs.size → b < s.heap.objs.size + 1 := fun h => Nat.lt_succ_of_lt h
  refine extend_zip (A := A.in1) S Da Db hn (lt1 cz) (lt1 ct) (lt1 cti) (lt1 c1) (lt1 c2) (Nat.lt_succ_self _) O ?_ (N.keep O Da Db up) hL2 fun g tk acc' c' kp hg hp => ?_
  · show s.heap.objs.size + 1 ≤ ((s.heap.push _).update s.heap.objs.size _).objs.size
    rw [Heap.size_update, Heap.size_push]
    exact Nat.le_refl _
  · exact ⟨rfl, fin g tk acc' c' (fun b o n1 n2 n3 n4 q => by
      have n0 : b ≠ s.heap.objs.size := Nat.ne_of_lt (Heap.lt_size q)
      exact kp b o n0 n1 n2 n3 n4 (up b o n0 q)) hg hp⟩
end
end Mp
set_option Elab.async false
set_option linter.all false
set_option maxRecDepth 100000
set_option maxHeartbeats 4000000
namespace Mp
open PySem PySem.Spec PyProof.Rows L2
section
variable {F : Fx}
/-- pairs that lie in g, not tracked yet -/
def NewPairs (F : Fx) (ρ : List Addr) (H : Hp) (g : Heap) : List W → List Addr → Prop
  | [], [] => True
  | w :: ws, T :: Ts => (∃ a b x y u v, w = .tup [a, b] ∧ Rp F ρ H a x ∧ Rp F ρ H b y ∧ RelV x u ∧ RelV y v ∧ IsTupOf2 g T u v) ∧ H T = none ∧ NewPairs F ρ H g ws Ts
  | _, _ => False
theorem NewPairs.up {ρ : List Addr} {H : Hp} {g : Heap} {T : Addr} {o : HO} (hT : H T = none) : ∀ {ws : List W} {Ts : List Addr}, T ∉ Ts → NewPairs F ρ H g ws Ts → NewPairs F ρ (upd H T o) g ws Ts
  | [], [], _, _ => True.intro
  | w :: ws, S :: Ts, n, ⟨⟨a, b, x, y, u, v, e, r1, r2, q⟩, h0, h⟩ => by
    have n1 : S ≠ T := fun z => n (z ▸ List.mem_cons_self)
    refine ⟨⟨a, b, x, y, u, v, e, Rp.mono (Ext.upd0 hT) _ _ r1, Rp.mono (Ext.upd0 hT) _ _ r2, q⟩, by rw [upd_ne n1]; exact h0, NewPairs.up hT (fun z => n (List.mem_cons_of_mem _ z)) h⟩
  | [], _ :: _, _, h => h.elim
  | _ :: _, [], _, h => h.elim
theorem lay_pairs {P : Program} {w : World} {fs ex : List Addr} {ρ : List Addr} {M : Store} {H0 : Hp} {h g : Heap} : ∀ (ws : List W) (Ts : List Addr) (H : Hp), Ts.Nodup → (∀ T ∈ Ts, h.objs.size ≤ T) → NewPairs F ρ H g ws Ts → HOk P w H g → RelS F ρ H M → Un fs ex H0 H h h → Ext ρ H0 ρ H →
    ∃ H', HOk P w H' g ∧ RelS F ρ H' M ∧ Un fs ex H0 H' h h ∧ Ext ρ H0 ρ H' ∧ Ext ρ H ρ H' ∧ Rps F ρ H' ws (Ts.map V.ref) ∧ ∀ a, a ∉ Ts → H a = none → H' a = none
  | [], [], H, _, _, _, ok, rs, un, x => ⟨H, ok, rs, un, x, Ext.refl, rfl, fun _ _ q => q⟩
  | w0 :: ws, T :: Ts, H, nd, ge, ⟨⟨a, b, x, y, u, v, e, r1, r2, v1, v2, hT⟩, h0, hr⟩, ok, rs, un, x0 => by
    obtain ⟨n1, nd2⟩ := List.nodup_cons.mp nd
    obtain ⟨x1, s1, p1⟩ := itok_pair (F := F) h0 (show Rps F ρ H [a, b] [x, y] from ⟨_, _, rfl, r1, _, _, rfl, r2, rfl⟩)
    have new : ObjOk P w (upd H T (.tup [x, y])) g T (.tup [x, y]) := ⟨by show 2 ≤ sizeLine; decide, [u, v], .cons v1 (.cons v2 .nil), ⟨_, hT, rfl, _, rfl⟩⟩
    have ok1 : HOk P w (upd H T (.tup [x, y])) g := ok.laidN (fun _ _ q => q) h0 new
    have un1 : Un fs ex H0 (upd H T (.tup [x, y])) h h := un.trans (Un.laid (fun _ _ q => q) (ge T List.mem_cons_self) h0)
    obtain ⟨H', a1, a2, a3, a4, a5, a6, a7⟩ := lay_pairs ws Ts (upd H T (.tup [x, y])) nd2 (fun S hS => ge S (List.mem_cons_of_mem _ hS)) (hr.up h0 n1) ok1 (s1 M rs) un1 (x0.trans x1)
    refine ⟨H', a1, a2, a3, a4, x1.trans a5, ⟨.ref T, _, rfl, ?_, a6⟩, fun c hc q => a7 c (fun z => hc (List.mem_cons_of_mem _ z)) ?_⟩
    · rw [e]
      exact Rp.mono a5 _ _ p1
    · have nc : c ≠ T := fun z => hc (by rw [z]; exact List.mem_cons_self)
      rw [upd_ne nc]
      exact q
  | [], _ :: _, _, _, _, h, _, _, _, _ => h.elim
  | _ :: _, [], _, _, _, h, _, _, _, _ => h.elim
end
end Mp
set_option Elab.async false
set_option linter.all false
set_option maxRecDepth 100000
set_option maxHeartbeats 4000000
namespace Mp
open PySem PySem.Spec PyProof.Rows L2
section
variable {F : Fx}
theorem newPairs_of {ρ : List Addr} {H : Hp} {g : Heap} : ∀ (ws : List W) (Ts : List Addr), ws.length = Ts.length → (∀ (j : Nat) (wj : W) (T : Addr), ws[j]? = some wj → Ts[j]? = some T → (∃ a b x y u v, wj = .tup [a, b] ∧ Rp F ρ H a x ∧ Rp F ρ H b y ∧ RelV x u ∧ RelV y v ∧ IsTupOf2 g T u v) ∧ H T = none) → NewPairs F ρ H g ws Ts
  | [], [], _, _ => True.intro
  | wj :: ws, T :: Ts, e, h => ⟨(h 0 wj T rfl rfl).1, (h 0 wj T rfl rfl).2, newPairs_of ws Ts (by simpa using e) fun j u S h1 h2 => h (j + 1) u S (by simpa using h1) (by simpa using h2)⟩
  | [], _ :: _, e, _ => by simp at e
  | _ :: _, [], e, _ => by simp at e
def addrOf : Value → Addr
  | .ref a => a
  | _ => 0
theorem read_pairs {ρ : List Addr} {H : Hp} {g : Heap} {base n na nb : Nat} {acc : Array Value} {xs ys : List V} {its its2 : List Value} {ws1 ws2 : List W} (hp : PairsNew base (fun i v => its[i]? = some v) (fun i v => its2[i]? = some v) acc n g)
    (hn : n = min xs.length ys.length) (v1 : Vals xs its) (v2 : Vals ys its2) (r1 : Rps F ρ H ws1 xs) (r2 : Rps F ρ H ws2 ys) (fr : ∀ T, base ≤ T → H T = none) :
    ∃ Ts : List Addr, acc.toList = Ts.map Value.ref ∧ Ts.Nodup ∧ (∀ T ∈ Ts, base ≤ T) ∧ NewPairs F ρ H g (zipT ws1 ws2) Ts := by
  have l1 := r1.length
  have l2 := r2.length
  have at_ : ∀ j, j < n → ∃ T, acc[j]? = some (.ref T) ∧ base ≤ T := fun j hj => let ⟨T, _, _, a1, a2, _⟩ := hp.2.1 j hj; ⟨T, a1, a2⟩
  have e : acc.toList = (acc.toList.map addrOf).map Value.ref := by
    apply List.ext_getElem?
    intro j
    rw [List.map_map, List.getElem?_map, Array.getElem?_toList]
    by_cases c : j < n
    · obtain ⟨T, a1, _⟩ := at_ j c
      rw [a1]
      rfl
    · rw [Array.getElem?_eq_none (by rw [hp.1]; omega)]
      rfl
  have g2 : ∀ (j : Nat) (T : Addr), (acc.toList.map addrOf)[j]? = some T → j < n ∧ acc[j]? = some (.ref T) := fun j T h => by
    have hj : j < n := by
      have z := (List.getElem?_eq_some_iff.mp h).1
      rw [List.length_map, Array.length_toList, hp.1] at z
      exact z
    refine ⟨hj, ?_⟩
    obtain ⟨T', a1, _⟩ := at_ j hj
    rw [List.getElem?_map, Array.getElem?_toList, a1] at h
    rw [a1]
    injection h with h
    exact congrArg (fun t => some (Value.ref t)) h
  refine ⟨acc.toList.map addrOf, e, ?_, fun T hT => ?_, newPairs_of _ _ ?_ fun j wj T h1 h2 => ?_⟩
  · refine List.pairwise_iff_getElem.mpr fun i j hi hj hij q => ?_
    have hj' : j < n := by rw [List.length_map, Array.length_toList, hp.1] at hj; exact hj
    have p1 := (g2 i _ (List.getElem?_eq_getElem hi)).2
    have p2 := (g2 j _ (List.getElem?_eq_getElem hj)).2
    refine hp.2.2 i j hij hj' ?_
    rw [p1, p2, q]
  · obtain ⟨j, hj⟩ := List.getElem?_of_mem hT
    obtain ⟨hj', a1⟩ := g2 j T hj
    obtain ⟨T', a2, a3⟩ := at_ j hj'
    rw [a1] at a2
    injection a2 with a2
    injection a2 with a2
    rw [a2]
    exact a3
  · have hz : acc.toList.length = n := by rw [Array.length_toList]; exact hp.1
    have hl : (zipT ws1 ws2).length = min ws1.length ws2.length := by simp [zipT]
    rw [List.length_map, hz, hl]
    omega
  · obtain ⟨hj, a1⟩ := g2 j T h2
    obtain ⟨y1, y2, z1, z2, rfl⟩ := zipT_get h1
    obtain ⟨T', u, v, b1, b2, b3, b4, b5⟩ := hp.2.1 j hj
    rw [a1] at b1
    injection b1 with b1
    injection b1 with b1
    subst b1
    obtain ⟨x, c1, rr1⟩ := Rps.get r1 z1
    obtain ⟨y, c2, rr2⟩ := Rps.get r2 z2
    obtain ⟨u', d1, ru⟩ := v1.get c1
    obtain ⟨v', d2, rv⟩ := v2.get c2
    have b3 := Option.some.inj (d1.symm.trans b3)
    have b4 := Option.some.inj (d2.symm.trans b4)
    subst b3 b4
    exact ⟨⟨y1, y2, x, y, u', v', rfl, rr1, rr2, ru, rv, b5⟩, fr T b2⟩
end
end Mp
set_option Elab.async false
set_option linter.all false
set_option maxRecDepth 100000
set_option maxHeartbeats 4000000
namespace Mp
open PySem PySem.Spec PyProof.Rows L2
section
variable {F : Fx} {X : Cx}
theorem inv_under {pins : List (Addr × Obj)} {τ : L2.St} {H : Hp} {s : Shared} (I : Inv X pins τ H s) : Inv { X with A := X.A.in1.in1 } pins τ H s :=
  ⟨{ mod := I.ok.mod, kind := I.ok.kind, glob := I.ok.glob, blt := I.ok.blt, above := I.ok.above, inj := I.ok.inj, has := I.ok.has, cab := I.ok.cab, hd := fun h => I.ok.hd h, frames := I.ok.frames, stk := I.ok.stk, exf := I.ok.exf, bs := I.ok.bs, bsz := I.ok.bsz, noex := I.ok.noex, exfs := I.ok.exfs, funs := I.ok.funs, frf := I.ok.frf },
    I.os, I.bare, I.base, I.loc, I.cell, I.free, I.freeC, I.pin, I.hok, I.len⟩
theorem refs_vals : ∀ Ts : List Addr, Vals (Ts.map V.ref) (Ts.map Value.ref)
  | [] => .nil
  | T :: r => .cons (show RelV (V.ref T) (Value.ref T) from rfl) (refs_vals r)
theorem zip_list (ok : CxOk F X) (hc : X.calm = true) (fz : Bool) {pins : List (Addr × Obj)} {τ : L2.St} {H : Hp} {s : Shared} {ρ : List Addr} {M : Store} {w1 w2 : W} {x1 x2 : V} {u1 u2 : Value} {Q : VK} {E : XK} (I : Inv X pins τ H s) (rs : RelS F ρ H M)
    (r1 : Rp F ρ H w1 x1) (r2 : Rp F ρ H w2 x2) (ru : RelV x1 u1) (ru2 : RelV x2 u2) (q : oK F (Rp F) E Q ρ H ((zipIt w1 w2 M).bind (mkL fz))) :
    wpAny (model X.prog X.w) X.A (call (.type "zip") [u1, u2]) (fun v s2 => wpAny (model X.prog X.w) X.A (call (.type "list") [v]) (EP X pins τ (lk Q)) X.xe s2) X.xe s := by
  unfold zipIt at q
  split at q
  · rename_i ws1 ws2 ew1 ew2
    have q : oK F (Rp F) E Q ρ H (mkL fz (zipT ws1 ws2) M) := q
    obtain ⟨a, xs, Go1, rfl, ⟨S1⟩⟩ := srcW_of ok.k I r1 ew1
    obtain ⟨b, ys, Go2, rfl, ⟨S2⟩⟩ := srcW_of ok.k I r2 ew2
    cases ru
    cases ru2
    have go1 := S1.go _ _ Ext.refl.toExtB
    have go2 := S2.go _ _ Ext.refl.toExtB
    obtain ⟨Hq1, B1, hq1⟩ := S1.src.begin_ X pins s τ H rfl rfl rfl I go1
    obtain ⟨Hq2, B2, hq2⟩ := S2.src.begin_ X pins s τ H rfl rfl rfl I go2
    refine zip_begins2 B1 B2 hq1 hq2 fun h' hz hTI hTO g1 g2 hsz hk => ?_
    have I2 : Inv X pins τ H { s with heap := h' } := I.kept (t' := s.toks) hk
    have hfp : ∀ c, s.heap.objs.size ≤ c → FpOk X pins H c := fun c hle => I.fpOk hle (I.hok.fresh hle)
    have ne1 : ∀ c, s.heap.objs.size ≤ c → c ≠ a := fun c hle => S1.src.apart rfl I go1 (hfp c hle)
    have ne2 : ∀ c, s.heap.objs.size ≤ c → c ≠ b := fun c hle => S2.src.apart rfl I go2 (hfp c hle)
    have up : ∀ k : Nat, s.heap.objs.size ≤ s.heap.objs.size + k := fun k => Nat.le_add_right _ _
    obtain ⟨_, its, Ob1, rv1, hob1, D1⟩ := S1.src.drw { X with A := X.A.in1.in1 } pins _ τ H rfl rfl rfl hc (inv_under I2) go1 s.heap.objs.size 0 (S1.src.start _ _ g1)
    obtain ⟨_, its2, Ob2, rv2, hob2, D2⟩ := S2.src.drw { X with A := X.A.in1.in1 } pins _ τ H rfl rfl rfl hc (inv_under I2) go2 (s.heap.objs.size + 1) 0 (S2.src.start _ _ g2)
    have D5 := zip5 s.heap.objs.size
    have S : ZipSep2 (s.heap.objs.size + 4) (s.heap.objs.size + 2) (s.heap.objs.size + 3) s.heap.objs.size (s.heap.objs.size + 1) [s.heap.objs.size, a] [s.heap.objs.size + 1, b] :=
      ⟨D5.a1, D5.a2, D5.a3, D5.a4, by simp, by simp [D5.a8, ne1 _ (up 4)], by simp [D5.a6, ne1 _ (up 3)], D5.a5, by simp, by simp [D5.a9, ne2 _ (up 4)], by simp [D5.a7, ne2 _ (up 3)], by simp [D5.b1, ne2 _ (Nat.le_refl _)], by simp [D5.b1.symm, ne1 _ (up 1)]⟩
    have le : min xs.length ys.length ≤ sizeLine := by
      have l1 := S1.rel.length
      have l2 := S2.rel.length
      have hl : (zipT ws1 ws2).length = min ws1.length ws2.length := by simp [zipT]
      have lz : (zipT ws1 ws2).length ≤ sizeLine := by
        unfold mkL at q
        cases e : lenOk (zipT ws1 ws2).length with
        | true => exact lenOk_le e
        | false => rw [e] at q; exact q.elim
      omega
    have la : a < s.heap.objs.size := Nat.lt_of_not_le fun z => ne1 a z rfl
    have lb : b < s.heap.objs.size := Nat.lt_of_not_le fun z => ne2 b z rfl
    refine list_zip S D1 D2 le (fun c hcm => ?_) (fun c hcm => ?_) ⟨hz, hTI, ⟨_, _, hTO⟩, ⟨S1.src.start _ _ g1, hob1⟩, ⟨S2.src.start _ _ g2, hob2⟩⟩ fun g tk acc c' kp hg hp => ?_
    · show c < h'.objs.size
      rw [hsz]
      rcases List.mem_cons.mp hcm with z | z
      · rw [z]; exact Nat.lt_add_of_pos_right (by decide)
      · rw [List.mem_singleton.mp z]; exact Nat.lt_of_lt_of_le la (up 5)
    · show c < h'.objs.size
      rw [hsz]
      rcases List.mem_cons.mp hcm with z | z
      · rw [z]; exact Nat.add_lt_add_left (by decide) _
      · rw [List.mem_singleton.mp z]; exact Nat.lt_of_lt_of_le lb (up 5)
    have hp : PairsNew (h'.objs.size + 1) (fun i v => its[i]? = some v) (fun i v => its2[i]? = some v) acc (min xs.length ys.length) g := hp
    have hg : g.get? h'.objs.size = some (seqObj "list" acc c') := hg
    have big : s.heap.objs.size ≤ h'.objs.size := by rw [hsz]; exact up 5
    have kk : ∀ c o, s.heap.get? c = some o → g.get? c = some o := fun c o e => by
      have lc := Heap.lt_size e
      have nk : ∀ k : Nat, c ≠ s.heap.objs.size + k := fun k => Nat.ne_of_lt (Nat.lt_of_lt_of_le lc (up k))
      exact kp c o (nk 4) (nk 3) (nk 0) (nk 1) (hk c o e)
    obtain ⟨Ts, eT, nd, ge, np⟩ := read_pairs (na := 0) (nb := 0) hp rfl rv1 rv2 S1.rel S2.rel (fun T h => I.hok.fresh (Nat.le_trans big (Nat.le_of_succ_le h)))
    obtain ⟨H', ok', rs', un', x', _, rps, nn⟩ := lay_pairs (P := X.prog) (w := X.w) (fs := X.fs) (ex := []) (h := s.heap) (g := g) _ Ts H nd (fun T hT => Nat.le_trans big (Nat.le_of_succ_le (ge T hT))) np (I.hok.kept kk) rs Un.refl Ext.refl
    have nL : h'.objs.size ∉ Ts := fun z => Nat.lt_irrefl _ (ge _ z)
    have hL : H' h'.objs.size = none := nn _ nL (I.hok.fresh big)
    obtain ⟨len, fin⟩ := new_lst rs' rps (oK.mono q x')
    have vals : Vals (Ts.map V.ref) acc.toList := by rw [eT]; exact refs_vals Ts
    have newL : ObjOk X.prog X.w (upd H' h'.objs.size (.lst (Ts.map V.ref))) g h'.objs.size (.lst (Ts.map V.ref)) := ⟨len, acc.toList, c', vals, hg⟩
    exact ⟨.ref h'.objs.size, _, I.un (t' := tk) (un'.trans (Un.laid kk big hL)) (ok'.laidN (fun _ _ z => z) hL newL), rfl, fin _ hL⟩
  · exact q.elim
end
end Mp
set_option Elab.async false
set_option linter.all false
set_option maxRecDepth 100000
set_option maxHeartbeats 4000000
namespace Mp
open PySem PySem.Spec PyProof.Rows L2
abbrev fLz (fz : Bool) (f g : FE) : FE := fun σ M => (f σ M).bind fun x M1 => (g σ M1).bind fun y M2 => (zipIt x y M2).bind (mkL fz)
theorem zipIt_calm (x y : W) (fz : Bool) (M : Store) : Calm ((zipIt x y M).bind (mkL fz)) := by
  intro c es M' z
  unfold zipIt at z
  split at z
  · have z : mkL fz _ M = .exc c es M' := z
    unfold mkL at z
    repeat' split at z
    all_goals cases z
  · cases z
section
variable {F : Fx} {Wx : WX} {G : Gm} {C : Orc} {lv : Nat} {X : Cx} {p p2 pos pos2 : Pos} {e e2 : Expr} {f g : FE}
theorem p_lz (z : Cz F Wx G C lv X) (fz : Bool) (hm : X.mg "list" = none) (hm2 : X.mg "zip" = none) (he : PE X e (tE F Wx f)) (he2 : PE X e2 (tE F Wx g)) (hg : Gl X "list" := by rfl) (hg2 : Gl X "zip" := by rfl)
    (a1 : starEach [.Call (.Name "zip" p2) [e, e2] [] pos2] X.env = (false, eval (.Call (.Name "zip" p2) [e, e2] [] pos2) X.env) :: starEach [] X.env := by rfl) (b1 : (backTo pos (starEach [] X.env)).any (·.1) = false := by rfl)
    (a2 : starEach [e, e2] X.env = (false, eval e X.env) :: starEach [e2] X.env := by rfl) (a3 : starEach [e2] X.env = (false, eval e2 X.env) :: starEach [] X.env := by rfl) (b2 : (backTo pos2 (starEach [e2] X.env)).any (·.1) = false := by rfl) :
    PE X (.Call (.Name "list" p) [.Call (.Name "zip" p2) [e, e2] [] pos2] [] pos) (tE F Wx (fLz fz f g)) := by
  have base : PE X (.Call (.Name "list" p) [.Call (.Name "zip" p2) [e, e2] [] pos2] [] pos) (fun τ H Q => ∃ Q0 : VK, tE F Wx (fLz fz f g) τ H Q0 ∧ Q = lk Q0) := by
    refine ⟨fun pins s τ H Q I ⟨Q0, ⟨ρ, σ, M, rs, rg, q⟩, eQ⟩ => ?_⟩
    subst eQ
    have ha : PA X [e, e2] (tCons (tE F Wx f) (tCons (tE F Wx g) tNil)) := pa_cons he (pa_cons he2 pa_nil a3) a2
    refine wpAny_Call_Name_kw (ld_blt I hg hm PyProof.Rows.boot_list ?_ (by decide) (by decide))
    refine PyProof.Rows.callWith_type1 (args_cons ?_ a1) a1 b1
    refine wpAny_Call_Name_kw (ld_blt I hg2 hm2 PyProof.Rows.boot_zip ?_ (by decide) (by decide))
    refine PyProof.Rows.callWith_type1 (thn (ha.run pos2 pins s τ H (fun vs H1 => ∃ v v2 ρ1 w w2 M1, vs = [v, v2] ∧ RelS F ρ1 H1 M1 ∧ Rp F ρ1 H1 w v ∧ Rp F ρ1 H1 w2 v2 ∧ oK F (Rp F) (fun c d H' => Wx c d τ H') Q0 ρ1 H1 ((zipIt w w2 M1).bind (mkL fz))) I
      (tE_bind rs rg q fun ρ1 w M1 v H1 x1 rs1 rg1 r1 q1 => tE_bind rs1 rg1 q1 fun ρ2 w2 M2 v2 H2 x2 rs2 rg2 r2 q2 => ⟨v, v2, ρ2, w, w2, M2, rfl, rs2, Rp.mono x2 _ _ r1, r2, q2⟩)) fun us s1 ⟨vs, H1, I1, rv, v, v2, ρ1, w, w2, M1, ev, rs1, r1, r2, q1⟩ => ?_) a2 b2
    subst ev
    obtain ⟨u, u2, rfl, ru, ru2⟩ := vals2 rv
    exact thn (zip_list z.ok z.calm fz I1 rs1 r1 r2 ru ru2 q1) fun v0 s2 h => args_nil h
  exact PE.weak (PE.lockV base) fun τ H Q q => ⟨Q, q, rfl⟩
end
end Mp
set_option Elab.async false
set_option linter.all false
set_option maxRecDepth 100000
set_option maxHeartbeats 4000000
namespace Mp
open PySem PySem.Spec PyProof.Rows L2
section
variable {F : Fx} {Wx : WX} {G : Gm} {C : Orc} {lv : Nat} {X : Cx} {pos : Pos} {x : Str}
theorem p_gStr {u : Str} {k : Tok} (hm : X.mg x = some (.str u k)) (hg : Gl X x := by rfl) (hdb : (x == ("__debug__" : Str)) = false := by decide) : PE X (.Name x pos) (tE F Wx (fCon (.str u))) :=
  e_con (pe_glob hg hm (show RelV (.str u) (.str u k) from ⟨k, rfl⟩) hdb) fun _ _ => rfl
theorem p_gInt {i : Int} {k : Tok} (hm : X.mg x = some (.int i k)) (hg : Gl X x := by rfl) (hdb : (x == ("__debug__" : Str)) = false := by decide) : PE X (.Name x pos) (tE F Wx (fCon (.int i))) :=
  e_con (pe_glob hg hm (show RelV (.int i) (.int i k) from ⟨k, rfl⟩) hdb) fun _ _ => rfl
theorem p_gTup (z : Cz F Wx G C lv X) {a : Addr} {o : Obj} {its : Array Value} {n : Nat} {ws : List W} {xs : List V} (hm : X.mg x = some (.ref a)) (hl : X.K.lookup a = some o) (hc : o.cls = .type "tuple") (hd : o.data = .seq its n) (hz : its.size ≤ sizeLine) (hv : Vals xs its.toList) (hr : ∀ ρ H, Rps F ρ H ws xs)
    (hg : Gl X x := by rfl) (hdb : (x == ("__debug__" : Str)) = false := by decide) : PE X (.Name x pos) (tE F Wx (fCon (.tup ws))) :=
  e_con (pe_glob hg hm (show RelV (.ref a) (.ref a) from rfl) hdb) fun ρ H => ⟨a, xs, rfl, .inr ⟨o, its, n, by rw [z.ok.k]; exact hl, hc, hd, hz, hv⟩, hr ρ H⟩
/-- a module's tuple of texts -/
theorem p_gTxts (z : Cz F Wx G C lv X) {a : Addr} {o : Obj} {its : Array Value} {n : Nat} (us : List Str) (hm : X.mg x = some (.ref a)) (hl : X.K.lookup a = some o) (hc : o.cls = .type "tuple") (hd : o.data = .seq its n) (hz : its.size ≤ sizeLine) (hv : StrsAre its.toList us)
    (hg : Gl X x := by rfl) (hdb : (x == ("__debug__" : Str)) = false := by decide) : PE X (.Name x pos) (tE F Wx (fCon (.tup (us.map .str)))) :=
  p_gTup z hm hl hc hd hz (vals_of_strs hv) (fun _ _ => txt_rps us) hg hdb
/-- a module's dict: what is to be checked of it on K -/
theorem p_gDic {a : Addr} {ds : List DictEntry} {es : List W} (hm : X.mg x = some (.ref a)) (h0 : (a == sysModules) = false) (hq : ∀ H, FzD F.K H a ds) (hz : es.length ≤ sizeLine) (kd : KDist es) (re : ∀ ρ H, RpE F ρ H es ds)
    (hg : Gl X x := by rfl) (hdb : (x == ("__debug__" : Str)) = false := by decide) : PE X (.Name x pos) (tE F Wx (fCon (.dic es))) :=
  e_con (pe_glob hg hm (show RelV (.ref a) (.ref a) from rfl) hdb) fun ρ H => ⟨a, ds, rfl, h0, hq H, hz, kd, re ρ H⟩
end
end Mp
set_option Elab.async false
set_option linter.all false
set_option maxRecDepth 100000
set_option maxHeartbeats 1000000
namespace Mg
open PySem GenW
open Sem (wp)
/-- what sleeps, and the same with a trap in it: both look alike, but the second cannot be woken -/
structure Slp where
  k : Resume → Sem PySem.Fin
  l : List Value
  c : Code
  p : Pos
  fs : List Frame
abbrev Slp.real (z : Slp) : GenState := .suspended z.k z.l z.c z.p z.fs false
abbrev Slp.trap (z : Slp) : GenState := .suspended (fun _ => .unsupported "") z.l z.c z.p z.fs false
theorem no_run {M : Model} {Γ : Ctx} {p : Pos} {t : Sem PySem.Fin} {fs : List Frame} {s s' : Shared} {e : End} (h : Runs M Γ p t fs s e s') : t = .unsupported "" → False := by
  induction h <;> intro q <;> first | (cases q; done) | skip
  all_goals rename_i ih1 ih2; first | exact ih1 q | exact ih2 q | skip

def flat (x : GenState) : Prop := match x with
  | .suspended _ _ _ _ fs _ => splitAtGen fs = none
  | _ => True
/-- trapped where T says so -/
structure Rel (T : Nat → Option Slp) (a b : Array GenState) : Prop where
  size : b.size = a.size
  tr : ∀ i z, T i = some z → a[i]? = some z.trap ∧ b[i]? = some z.real
  un : ∀ i, T i = none → b[i]? = a[i]? ∧ ∀ x, a[i]? = some x → flat x
section
variable {T : Nat → Option Slp} {a b : Array GenState}
theorem Rel.free (h : Rel T a b) {j : Nat} {x : GenState} (hj : a[j]? = some x) (hx : ∀ z : Slp, x ≠ z.trap) : T j = none := by
  cases e : T j with
  | none => rfl
  | some z =>
    have := (h.tr j z e).1
    rw [hj] at this
    exact absurd (Option.some.inj this) (hx z)
theorem Rel.look (h : Rel T a b) {j : Nat} {x : GenState} (hj : a[j]? = some x) : T j = none ∨ ∃ z : Slp, x = z.trap ∧ b[j]? = some z.real := by
  cases e : T j with
  | none => exact .inl rfl
  | some z =>
    obtain ⟨q1, q2⟩ := h.tr j z e
    rw [hj] at q1
    exact .inr ⟨z, Option.some.inj q1, q2⟩
theorem Rel.set (h : Rel T a b) {j : Nat} {x : GenState} (hj : T j = none) (hx : flat x) : Rel T (a.setIfInBounds j x) (b.setIfInBounds j x) := by
  refine ⟨by simp [h.size], fun i z e => ?_, fun i e => ?_⟩
  · have hne : j ≠ i := fun q => by subst q; rw [hj] at e; cases e
    rw [Array.getElem?_setIfInBounds_ne hne, Array.getElem?_setIfInBounds_ne hne]
    exact h.tr i z e
  · by_cases hne : j = i
    · subst hne
      simp only [Array.getElem?_setIfInBounds_self, h.size]
      refine ⟨by first | rfl | trivial, fun y hy => ?_⟩
      split at hy
      · cases hy; exact hx
      · cases hy
    · rw [Array.getElem?_setIfInBounds_ne hne, Array.getElem?_setIfInBounds_ne hne]
      exact h.un i e
theorem Rel.push (h : Rel T a b) {c : Code} : Rel T (a.push (.fresh c)) (b.push (.fresh c)) := by
  refine ⟨by simp [h.size], fun i z e => ?_, fun i e => ?_⟩
  · obtain ⟨h1, h2⟩ := h.tr i z e
    obtain ⟨l1, _⟩ := Array.getElem?_eq_some_iff.mp h1
    obtain ⟨l2, _⟩ := Array.getElem?_eq_some_iff.mp h2
    rw [Array.getElem?_push_lt l1, Array.getElem?_push_lt l2, ← Array.getElem?_eq_getElem l1, ← Array.getElem?_eq_getElem l2]
    exact ⟨h1, h2⟩
  · obtain ⟨h1, h2⟩ := h.un i e
    rw [Array.getElem?_push, Array.getElem?_push, h.size, h1]
    refine ⟨rfl, fun x hx => ?_⟩
    split at hx
    · cases hx; exact True.intro
    · exact h2 x hx
end
theorem split_tail {k : Result → Sem PySem.Fin} {h : Option Value} {g : Bool} {l : List Value} {c : Code} {p : Pos} {kp : List Value} {fs : List Frame} (f : splitAtGen (.ret k h g l c p kp :: fs) = none) : splitAtGen fs = none := by
  cases e : splitAtGen fs with
  | none => rfl
  | some x => simp [splitAtGen, e] at f
theorem split_app : ∀ {fs gs : List Frame}, splitAtGen fs = none → splitAtGen gs = none → splitAtGen (fs ++ gs) = none
  | [], _, _, h => h
  | .gen .. :: _, _, h, _ => by cases h
  | .ret k h g l c p kp :: fs, gs, h1, h2 => by
    show (splitAtGen (fs ++ gs)).map _ = none
    rw [split_app (split_tail h1) h2]
    rfl
def flatE (e : End) : Prop := match e with
  | .susp _ _ _ _ _ _ fs => splitAtGen fs = none
  | _ => True
theorem flatE.gen {e : End} (h : flatE e) : flat e.genState := by
  cases e with
  | ret _ => exact True.intro
  | susp _ _ _ _ _ _ _ => exact h
abbrev ov (s : Shared) (b : Array GenState) : Shared := { s with gens := b }
theorem runs_trap {M : Model} {T : Nat → Option Slp} {Γ : Ctx} {p : Pos} {t : Sem PySem.Fin} {fs : List Frame} {s s' : Shared} {e : End} (h : Runs M Γ p t fs s e s') :
    splitAtGen fs = none → ∀ b, Rel T s.gens b → flatE e ∧ ∃ b', Rel T s'.gens b' ∧ Runs M Γ p t fs (ov s b) e (ov s' b') := by
  induction h with
  | done => exact fun _ b r => ⟨True.intro, b, r, .done⟩
  | raise => exact fun _ b r => ⟨True.intro, b, r, .raise⟩
  | again q _ ih => exact fun f b r => let ⟨h1, b', h2, h3⟩ := ih f b r; ⟨h1, b', h2, .again q h3⟩
  | rule _ ih => exact fun f b r => let ⟨h1, b', h2, h3⟩ := ih f b r; ⟨h1, b', h2, .rule h3⟩
  | «at» _ ih => exact fun f b r => let ⟨h1, b', h2, h3⟩ := ih f b r; ⟨h1, b', h2, .at h3⟩
  | load h _ ih => exact fun f b r => let ⟨h1, b', h2, h3⟩ := ih f b r; ⟨h1, b', h2, .load h h3⟩
  | update h _ ih => exact fun f b r => let ⟨h1, b', h2, h3⟩ := ih f b r; ⟨h1, b', h2, .update h h3⟩
  | loadIfAlive _ ih => exact fun f b r => let ⟨h1, b', h2, h3⟩ := ih f b r; ⟨h1, b', h2, .loadIfAlive h3⟩
  | point _ ih => exact fun f b r => let ⟨h1, b', h2, h3⟩ := ih f b r; ⟨h1, b', h2, .point h3⟩
  | alloc _ ih => exact fun f b r => let ⟨h1, b', h2, h3⟩ := ih f b r; ⟨h1, b', h2, .alloc h3⟩
  | fresh _ ih => exact fun f b r => let ⟨h1, b', h2, h3⟩ := ih f b r; ⟨h1, b', h2, .fresh h3⟩
  | ask _ ih => exact fun f b r => let ⟨h1, b', h2, h3⟩ := ih f b r; ⟨h1, b', h2, .ask h3⟩
  | choose h _ ih => exact fun f b r => let ⟨h1, b', h2, h3⟩ := ih f b r; ⟨h1, b', h2, .choose h h3⟩
  | os _ ih => exact fun f b r => let ⟨h1, b', h2, h3⟩ := ih f b r; ⟨h1, b', h2, .os h3⟩
  | handled _ ih => exact fun f b r => let ⟨h1, b', h2, h3⟩ := ih f b r; ⟨h1, b', h2, .handled h3⟩
  | genState hj _ ih =>
    intro f b r
    obtain ⟨h1, b', h2, h3⟩ := ih f b r
    refine ⟨h1, b', h2, ?_⟩
    rcases r.look hj with tj | ⟨z, rfl, q2⟩
    · exact .genState ((r.un _ tj).1.trans hj) h3
    · exact .genState (st := z.real) q2 h3
  | stack _ ih => exact fun f b r => let ⟨h1, b', h2, h3⟩ := ih f b r; ⟨h1, b', h2, .stack h3⟩
  | thread _ ih => exact fun f b r => let ⟨h1, b', h2, h3⟩ := ih f b r; ⟨h1, b', h2, .thread h3⟩
  | newGen _ ih =>
    intro f b r
    obtain ⟨h1, b', h2, h3⟩ := ih f _ r.push
    exact ⟨h1, b', h2, .newGen (by rw [← r.size] at h3; exact h3)⟩
  | call _ _ ih1 ih2 =>
    intro f b r
    obtain ⟨_, b1, r1, h1⟩ := ih1 rfl b r
    obtain ⟨g2, b2, r2, h2⟩ := ih2 f b1 r1
    exact ⟨g2, b2, r2, .call h1 h2⟩
  | callSusp _ ih => exact fun f b r => let ⟨h1, b', h2, h3⟩ := ih rfl b r; ⟨split_app h1 rfl, b', h2, .callSusp h3⟩
  | yield => exact fun _ b r => ⟨rfl, b, r, .yield⟩
  | resumeFresh hj _ hq _ ih1 ih2 =>
    intro f b r
    have tj := r.free hj fun z q => by cases q
    obtain ⟨f1, b1, r1, h1⟩ := ih1 rfl _ (r.set (x := .running) tj True.intro)
    obtain ⟨f2, b2, r2, h2⟩ := ih2 f _ (r1.set tj f1.gen)
    exact ⟨f2, b2, r2, .resumeFresh ((r.un _ tj).1.trans hj) h1 hq h2⟩
  | resumeSuspended hj hr hq _ ih1 ih2 =>
    intro f b r
    have tj := r.free hj fun z q => by cases q; exact no_run hr rfl
    obtain ⟨f1, b1, r1, h1⟩ := ih1 ((r.un _ tj).2 _ hj) _ (r.set (x := .running) tj True.intro)
    obtain ⟨f2, b2, r2, h2⟩ := ih2 f _ (r1.set tj f1.gen)
    exact ⟨f2, b2, r2, .resumeSuspended ((r.un _ tj).1.trans hj) h1 hq h2⟩
  | resumeJustStarted hj hv _ ih =>
    intro f b r
    have tj := r.free hj fun z q => by cases q
    obtain ⟨h1, b', h2, h3⟩ := ih f b r
    exact ⟨h1, b', h2, .resumeJustStarted ((r.un _ tj).1.trans hj) hv h3⟩
  | resumeThrowFresh hj _ ih =>
    intro f b r
    have tj := r.free hj fun z q => by cases q
    obtain ⟨h1, b', h2, h3⟩ := ih f _ (r.set (x := .finished) tj True.intro)
    exact ⟨h1, b', h2, .resumeThrowFresh ((r.un _ tj).1.trans hj) h3⟩
  | resumeRunning hj _ ih =>
    intro f b r
    have tj := r.free hj fun z q => by cases q
    obtain ⟨h1, b', h2, h3⟩ := ih f b r
    exact ⟨h1, b', h2, .resumeRunning ((r.un _ tj).1.trans hj) h3⟩
  | resumeFinished hj _ ih =>
    intro f b r
    have tj := r.free hj fun z q => by cases q
    obtain ⟨h1, b', h2, h3⟩ := ih f b r
    exact ⟨h1, b', h2, .resumeFinished ((r.un _ tj).1.trans hj) h3⟩
  | segRet _ _ ih1 ih2 =>
    intro f b r
    obtain ⟨_, b1, r1, h1⟩ := ih1 rfl b r
    obtain ⟨f2, b2, r2, h2⟩ := ih2 (split_tail f) b1 r1
    exact ⟨f2, b2, r2, .segRet h1 h2⟩
  | segGen _ _ ih1 ih2 => intro f; cases f
  | segSuspOut h _ ih => exact fun f b r => let ⟨h1, b', h2, h3⟩ := ih rfl b r; ⟨split_app h1 f, b', h2, .segSuspOut h h3⟩
  | segSuspGen h _ hq _ ih1 ih2 => intro f; rw [h] at f; cases f
/-! ### of a whole computation -/
theorem wp_trap {α : Type} {M : Model} {T : Nat → Option Slp} (Γ : Ctx) (t : Sem α) : ∀ (Q : α → Pos → Shared → Prop) (E : Value → Pos → Shared → Prop) (p : Pos) (s : Shared) (b : Array GenState), Rel T s.gens b → wp M Γ t Q E p s →
    wp M Γ t (fun a p' s' => ∃ s1 b', s' = ov s1 b' ∧ Rel T s1.gens b' ∧ Q a p' s1) (fun e p' s' => ∃ s1 b', s' = ov s1 b' ∧ Rel T s1.gens b' ∧ E e p' s1) p (ov s b) := by
  induction t with
  | pure a => intro Q E p s b r h; exact ⟨s, b, rfl, r, h⟩
  | raise e => intro Q E p s b r h; exact ⟨s, b, rfl, r, h⟩
  | unsupported _ => intro Q E p s b _ h; exact h
  | finish _ => intro Q E p s b _ h; exact h
  | rule _ k ih => intro Q E p s b r h; exact ih () Q E p s b r h
  | «at» p' k ih => intro Q E p s b r h; exact ih () Q E p' s b r h
  | load a _ k ih => intro Q E p s b r h; obtain ⟨o, ho, h⟩ := h; exact ⟨o, ho, ih o Q E p s b r h⟩
  | update a _ f k ih => intro Q E p s b r h; exact ⟨h.1, ih () Q E p { s with heap := s.heap.update a f } b r h.2⟩
  | loadIfAlive a k ih => intro Q E p s b r h; exact ih _ Q E p s b r h
  | point _ k ih => intro Q E p s b r h; exact ih () Q E p s b r h
  | register _ _ => intro Q E p s b _ h; exact h
  | alloc o k ih => intro Q E p s b r h; exact ih _ Q E p { s with heap := s.heap.push o } b r h
  | fresh k ih => intro Q E p s b r h; exact ih _ Q E p { s with toks := s.toks + 1 } b r h
  | ask k ih => intro Q E p s b r h; exact ih _ Q E p s b r h
  | choose src m k ih => intro Q E p s b r h; exact ⟨h.1, ih _ Q E p { s with drawn := s.drawn.bump src } b r h.2⟩
  | os q _ k ih => intro Q E p s b r h; exact ih _ Q E p { s with os := (Os.step s.os q).1 } b r h
  | call c hd _ _ k ih =>
    intro Q E p s b r h
    obtain ⟨x, s', hr, h⟩ := h
    obtain ⟨_, b', r', h'⟩ := runs_trap hr rfl b r
    exact ⟨x, ov s' b', h', ih x Q E p s' b' r' h⟩
  | handled own k ih => intro Q E p s b r h; exact ih _ Q E p s b r h
  | genState g k ih =>
    intro Q E p s b r h
    obtain ⟨st, hs, h⟩ := h
    cases e : T g with
    | none => exact ⟨st, (r.un g e).1.trans hs, ih _ Q E p s b r h⟩
    | some z =>
      obtain ⟨q1, q2⟩ := r.tr g z e
      rw [hs] at q1; cases q1
      exact ⟨z.real, q2, ih _ Q E p s b r h⟩
  | newGen c k ih =>
    intro Q E p s b r h
    show wp M Γ (k b.size) _ _ p _
    rw [r.size]
    exact ih _ Q E p { s with gens := s.gens.push (.fresh c) } _ r.push h
  | resume g x _ k ih =>
    intro Q E p s b r h
    obtain ⟨res, s', hw, h⟩ := h
    have key : ∃ b', Rel T s'.gens b' ∧ Wakes M Γ p g x (ov s b) res (ov s' b') := by
      unfold Wakes at hw
      cases hg : s.gens[g]? with
      | none => rw [hg] at hw; exact hw.elim
      | some st =>
        rw [hg] at hw
        cases st with
        | fresh c =>
          have tj := r.free hg fun z q => by cases q
          have hb := (r.un g tj).1.trans hg
          cases x with
          | send v =>
            cases v with
            | none =>
              obtain ⟨e₁, s₁, hr, hq, q1, rfl⟩ := hw
              obtain ⟨f1, b1, r1, h1⟩ := runs_trap hr rfl _ (r.set (x := .running) tj True.intro)
              exact ⟨_, r1.set tj f1.gen, by unfold Wakes; rw [show (ov _ b).gens[g]? = _ from hb]; exact ⟨e₁, ov s₁ b1, h1, hq, q1, rfl⟩⟩
            | _ => obtain ⟨q1, rfl⟩ := hw; exact ⟨b, r, by unfold Wakes; rw [show (ov _ b).gens[g]? = _ from hb]; exact ⟨q1, rfl⟩⟩
          | throw v =>
            obtain ⟨q1, rfl⟩ := hw
            exact ⟨_, r.set (x := .finished) tj True.intro, by unfold Wakes; rw [show (ov _ b).gens[g]? = _ from hb]; exact ⟨q1, rfl⟩⟩
        | suspended k₀ l₀ c₀ p₀ fs cl =>
          obtain ⟨e₁, s₁, hr, hq, q1, rfl⟩ := hw
          have tj := r.free hg fun z q => by cases q; exact no_run hr rfl
          have hb := (r.un g tj).1.trans hg
          obtain ⟨f1, b1, r1, h1⟩ := runs_trap hr ((r.un g tj).2 _ hg) _ (r.set (x := .running) tj True.intro)
          exact ⟨_, r1.set tj f1.gen, by unfold Wakes; rw [show (ov _ b).gens[g]? = _ from hb]; exact ⟨e₁, ov s₁ b1, h1, hq, q1, rfl⟩⟩
        | running =>
          have tj := r.free hg fun z q => by cases q
          have hb := (r.un g tj).1.trans hg
          obtain ⟨q1, rfl⟩ := hw; exact ⟨b, r, by unfold Wakes; rw [show (ov _ b).gens[g]? = _ from hb]; exact ⟨q1, rfl⟩⟩
        | finished =>
          have tj := r.free hg fun z q => by cases q
          have hb := (r.un g tj).1.trans hg
          obtain ⟨q1, rfl⟩ := hw; exact ⟨b, r, by unfold Wakes; rw [show (ov _ b).gens[g]? = _ from hb]; exact ⟨q1, rfl⟩⟩
    obtain ⟨b', r', w'⟩ := key
    exact ⟨res, ov s' b', w', ih res Q E p s' b' r' h⟩
  | yield _ _ _ _ => intro Q E p s b _ h; exact h
  | stack k ih => intro Q E p s b r h; exact ih _ Q E p s b r h
  | fork _ _ => intro Q E p s b _ h; exact h
  | thread k ih => intro Q E p s b r h; exact ih _ Q E p s b r h
  | await _ _ _ _ _ => intro Q E p s b _ h; exact h
theorem wpAny_trap {α : Type} {M : Model} {A : Around} {T : Nat → Option Slp} {t : Sem α} {Q : α → Shared → Prop} {E : Value → Shared → Prop} {s : Shared} {b : Array GenState} (r : Rel T s.gens b) (h : wpAny M A t Q E s) :
    wpAny M A t (fun a s' => ∃ s1 b', s' = ov s1 b' ∧ Rel T s1.gens b' ∧ Q a s1) (fun e s' => ∃ s1 b', s' = ov s1 b' ∧ Rel T s1.gens b' ∧ E e s1) (ov s b) :=
  fun Γ p hΓ => wp_trap Γ t _ _ p s b r (h Γ p hΓ)
/-! ### all that sleeps is trapped -/
def slpOf : GenState → Option Slp
  | .suspended k l c p fs _ => some ⟨k, l, c, p, fs⟩
  | _ => none
def trapIt : GenState → GenState
  | .suspended _ l c p fs cl => .suspended (fun _ => .unsupported "") l c p fs cl
  | x => x
def trapsOf (b : Array GenState) (i : Nat) : Option Slp := (b[i]?).bind slpOf
theorem rel_all {b : Array GenState} (h : ∀ x ∈ b, x.bare = true) : Rel (trapsOf b) (b.map trapIt) b := by
  refine ⟨by simp, fun i z e => ?_, fun i e => ?_⟩
  · unfold trapsOf at e
    cases hb : b[i]? with
    | none => rw [hb] at e; cases e
    | some x =>
      rw [hb] at e
      have hx := h x (Array.mem_of_getElem? hb)
      cases x with
      | suspended k l c p fs cl =>
        cases e
        have : cl = false := by simpa [GenState.bare] using hx
        subst this
        exact ⟨by rw [Array.getElem?_map, hb]; rfl, rfl⟩
      | _ => cases e
  · unfold trapsOf at e
    rw [Array.getElem?_map]
    cases hb : b[i]? with
    | none => exact ⟨rfl, fun x q => by cases q⟩
    | some x =>
      rw [hb] at e
      cases x with
      | suspended k l c p fs cl => cases e
      | fresh c => exact ⟨rfl, fun y q => by cases q; exact True.intro⟩
      | running => exact ⟨rfl, fun y q => by cases q; exact True.intro⟩
      | finished => exact ⟨rfl, fun y q => by cases q; exact True.intro⟩
theorem bare_trap {b : Array GenState} (h : ∀ x ∈ b, x.bare = true) : ∀ x ∈ b.map trapIt, x.bare = true := by
  intro x hx
  obtain ⟨y, hy, rfl⟩ := Array.mem_map.mp hx
  have := h y hy
  cases y <;> exact this
end Mg
set_option Elab.async false
set_option linter.all false
set_option maxRecDepth 100000
set_option maxHeartbeats 2000000
namespace Mg
open PySem PySem.Spec PyProof.Rows L2 GenW Mp
/-- a generator def of the written part -/
structure GDef (K : PySem.W.Frag) (N ps : List Str) (qual : Str) (scope : Scope) (body : List Stmt) (f : Addr) (cdv : Value) : Prop where
  sc : GScope N ps scope
  ex : ∃ (name : Str) (params : Arguments) (dV kV doc pm ct oc : Value) (an od : Option Addr) (osl : Array (Option Value)),
    K.lookup f = some ⟨oc, od, .func (PySem.W.fnOf name qual params body scope dV kV doc pm an cdv ct), osl⟩ ∧ Binds K (PySem.W.fnOf name qual params body scope dV kV doc pm an cdv ct) ps []
  cd : PySem.W.codeIn K cdv qual = true
  kp : PySem.W.keepIn K (.ref f) = true
/-- the body's context; nothing is raised -/
def gR (P : Program) (w : World) (K : PySem.W.Frag) (mg : Str → Option Value) (base : Heap) (stk : List Env) (N : List Str) (qual : Str) (scope : Scope) (f : Addr) (cdv : Value) (A : Around) (s : Shared) (H : Hp) : Cx :=
  { cxOf (L2.CX P w) P w K mg base N qual scope f cdv A stk s H (fun _ _ _ => False) with xe := fun _ _ => False }
abbrev gX (X : Cx) (N : List Str) (qual : Str) (scope : Scope) (f : Addr) (cdv : Value) (A : Around) (s : Shared) (H : Hp) : Cx := gR X.prog X.w X.K X.mg X.base X.stack N qual scope f cdv A s H
/-- the same context, but nothing may be raised -/
abbrev noX (X : Cx) : Cx := { X with xe := fun _ _ => False }
theorem Inv.noX {X : Cx} {pins : List (Addr × Obj)} {τ : L2.St} {H : Hp} {s : Shared} (I : Inv X pins τ H s) : Inv (noX X) pins τ H s :=
  ⟨⟨I.ok.mod, I.ok.kind, I.ok.glob, I.ok.blt, I.ok.above, I.ok.inj, I.ok.has, I.ok.cab, I.ok.hd, I.ok.frames, I.ok.stk, I.ok.exf, I.ok.bs, I.ok.bsz, I.ok.noex, I.ok.exfs, I.ok.funs, I.ok.frf⟩, I.os, I.bare, I.base, I.loc, I.cell, I.free, I.freeC, I.pin, I.hok, I.len⟩
theorem Inv.yesX {X : Cx} {pins : List (Addr × Obj)} {τ : L2.St} {H : Hp} {s : Shared} (I : Inv (Mg.noX X) pins τ H s) : Inv X pins τ H s :=
  ⟨⟨I.ok.mod, I.ok.kind, I.ok.glob, I.ok.blt, I.ok.above, I.ok.inj, I.ok.has, I.ok.cab, I.ok.hd, I.ok.frames, I.ok.stk, I.ok.exf, I.ok.bs, I.ok.bsz, I.ok.noex, I.ok.exfs, I.ok.funs, I.ok.frf⟩, I.os, I.bare, I.base, I.loc, I.cell, I.free, I.freeC, I.pin, I.hok, I.len⟩
/-- other generators' states: the invariant does not see them -/
theorem Inv.gens {X : Cx} {pins : List (Addr × Obj)} {τ : L2.St} {H : Hp} {s : Shared} {b : Array GenState} (I : Inv X pins τ H s) (hb : AllBare b) : Inv X pins τ H (ov s b) :=
  ⟨I.ok, I.os, hb, I.base, I.loc, I.cell, I.free, I.freeC, I.pin, I.hok, I.len⟩
/-- a generator that has not begun -/
structure Born (X : Cx) (N : List Str) (qual : Str) (scope : Scope) (body : List Stmt) (f : Addr) (cdv : Value) (vs : List V) (s : Shared) (H : Hp) (a : Addr) (go : Obj) (s' : Shared) : Prop where
  young : s.heap.objs.size ≤ a
  cls : go.cls = .type "generator"
  dat : ∃ nm qn, go.data = .fields #[.int s.gens.size 0, nm, qn]
  sl : go.slots = #[]
  at_ : s'.heap.get? a = some go
  os : s'.os = s.os
  bare : AllBare s'.gens
  gen : s'.gens[s.gens.size]? = some (.fresh (.func body (envOfC qual scope s.heap.objs.size f cdv)))
  keep : ∀ b o, s.heap.get? b = some o → s'.heap.get? b = some o
  wake : ∀ (A : Around), A.handled = none → A.frames = some X.stack → ∀ s2 : Shared, (∀ b o, s'.heap.get? b = some o → s2.heap.get? b = some o) → s2.os = s.os → AllBare s2.gens → Inv (gX X N qual scope f cdv A s H) [(a, go)] (start N vs) H s2
section
variable {X : Cx} {pins : List (Addr × Obj)} {τ : L2.St} {H : Hp} {s : Shared} {N ps : List Str} {qual : Str} {scope : Scope} {body : List Stmt} {f : Addr} {cdv : Value} {us : List Value} {vs : List V}
theorem born {E : Value → Shared → Prop} (D : GDef X.K N ps qual scope body f cdv) (hd : X.A.depth < recursionLimit) (I : Inv X pins τ H s) (r : Vals vs us) (hl : vs.length = ps.length) :
    wpAny (model X.prog X.w) X.A (call (.ref f) us) (fun u s' => ∃ a go, u = .ref a ∧ Born X N qual scope body f cdv vs s H a go s') E s := by
  obtain ⟨name, params, dV, kV, doc, pm, ct, oc, an, od, osl, lk, hb⟩ := D.ex
  have e0 := I.env0
  have KX : X.K.In s.heap := I.kIn
  have hlu : us.length = ps.length := by rw [← r.length]; exact hl
  have kinds : ∀ y ∈ ps.zip us, scope.names.lookup y.1 = some .local ∨ (scope.names.lookup y.1 = some .cell ∧ ((cellsFrom (s.heap.objs.size + 1) scope.names []).lookup y.1).isSome = true) := by
    rintro ⟨n, v⟩ hy
    rcases D.sc.par n (List.of_mem_zip hy).1 with q | q
    · exact .inl q
    · exact .inr ⟨q, PySem.W.cellsFrom_some _ _ _ (.inl q)⟩
  have bt := hb s us I.kIn (by simpa using hlu)
  refine wpAny_call (codeAny_call_generator hd (KX _ _ lk) rfl D.sc.co D.sc.gen rfl (PySem.W.codeRec_of KX D.cd) ?_)
  have bt' := bt (model X.prog X.w) X.A.in1
  rw [List.append_nil] at bt'
  refine bt' _ _ ?_
  refine wpAny_newFunctionEnv_cells D.sc.kind kinds fun env he s1 x => ?_
  subst he
  obtain ⟨h1, tk, e1, hk1⟩ := x.done
  have kp1 : ∀ b o, s.heap.get? b = some o → s1.heap.get? b = some o := x.toInCall.keep
  have lt1 : s.heap.objs.size < s1.heap.objs.size := x.toInCall.ns.lt
  have gens1 : s1.gens = s.gens := by rw [e1]
  have os1 : s1.os = s.os := by rw [e1]
  have bare1 : AllBare s1.gens := by rw [gens1]; exact e0.bare
  refine ⟨e0.mod.nolimit.keeps fun b o e => kp1 b o (e0.bs b o e).1, s1.heap.objs.size, _, rfl, ⟨Nat.le_of_lt lt1, rfl, ⟨_, _, by rw [← gens1]⟩, rfl, Heap.get?_push_size _ rfl, os1, AllBare.push bare1 rfl, ?_, fun b o e => Heap.get?_push_of_some _ (kp1 b o e), ?_⟩⟩
  · rw [← gens1]
    exact Array.getElem?_push_size ..
  intro A hA hfr s2 hk2 hos hba
  have e0' : Env0 X.prog X.w X.K X.mg X.base A X.stack s H := ⟨hfr, e0.mod, e0.bs, e0.bsz, e0.funs, e0.frf, e0.hok, e0.bare⟩
  have I1 := inv_startG (E := fun _ _ _ => False) (qual := qual) (f := f) (cd := cdv) D.sc hA e0' hl r x
  have kp2 : ∀ b o, s1.heap.get? b = some o → s2.heap.get? b = some o := fun b o e => hk2 b o (Heap.get?_push_of_some _ e)
  have I2 := Inv.call' (ch := []) I1 (hos.trans os1.symm) (Un.kept kp2) (I1.hok.kept kp2) hba fun b z => by simp at z
  have I3 : Inv (gX X N qual scope f cdv A s H) [] (start N vs) H s2 :=
    ⟨⟨I2.ok.mod, I2.ok.kind, I2.ok.glob, I2.ok.blt, I2.ok.above, I2.ok.inj, I2.ok.has, I2.ok.cab, I2.ok.hd, I2.ok.frames, I2.ok.stk, I2.ok.exf, I2.ok.bs, I2.ok.bsz, I2.ok.noex, I2.ok.exfs, I2.ok.funs, I2.ok.frf⟩, I2.os, I2.bare, I2.base, I2.loc, I2.cell, I2.free, I2.freeC, fun p hp => (by cases hp), I2.hok, I2.len⟩
  refine I3.pins_of fun p hp => ?_
  rw [List.mem_singleton.mp hp]
  have nf := I1.nofs (Nat.le_refl s1.heap.objs.size)
  refine ⟨hk2 _ _ (Heap.get?_push_size _ rfl), I1.hok.fresh (Nat.le_refl _), Nat.ne_of_gt lt1, nf, fun v q => by cases q⟩
end
end Mg
set_option Elab.async false
set_option linter.all false
set_option maxRecDepth 100000
set_option maxHeartbeats 2000000
namespace Mg
open PySem PySem.Spec PyProof.Rows L2 GenW Mp
section
variable {M : Model} {A : Around} {R : GenEnd} {Y : Protocol} {n : Nat} {s₀ s : Shared} {c : Code} {fs : List Frame} {env : Env} {K : Flow → Sem PySem.Fin} {J : Value → Sem PySem.Fin} {gd : Bool → Bool} {lv : List Value → List Value}
abbrev Nev : Value → Shared → Prop := fun _ _ => False
theorem nev_seg {t : Value → Sem PySem.Fin} : ∀ x s', Nev x s' → Seg M A R Y n s₀ c (t x) fs s' := fun _ _ h => h.elim
theorem sg_if {test : Expr} {body orelse : List Stmt} {pos : Pos} (h : wpAny M (A.over c fs) (isTrue test env (eval test env)) (fun b s' => Seg M A R Y n s₀ c ((execs (if b = true then body else orelse) env).wrap K J gd lv) fs s') Nev s) :
    Seg M A R Y n s₀ c ((exec (.If test body orelse pos) env).wrap K J gd lv) fs s := by
  rw [exec_If]
  refine seg_bind_wrap (wpAny_standAt (seg_bind_wrap (wpAny_mono h (fun b s' hb => ?_) nev_seg)))
  cases b with
  | true => exact hb
  | false => exact hb
theorem sg_for {target iter : Expr} {body orelse : List Stmt} {pos : Pos} (hs : ∀ x, foldedSetIterable iter env x = pure x)
    (h : wpAny M (A.over c fs) (eval iter env) (fun v s1 => wpAny M (A.over c fs) (pyIter v) (fun it s2 => ∀ k p, Seg M A R Y n s₀ (.forLoop target it body orelse env) (M.den (.forLoop target it body orelse env)) (.ret k none (gd false) (lv []) c p [] :: fs) s2) Nev s1) Nev s) :
    Seg M A R Y n s₀ c ((exec (.For target iter body orelse pos) env).wrap K J gd lv) fs s := by
  rw [exec_For]
  refine seg_bind_wrap (wpAny_standAt (seg_bind_wrap (wpAny_mono h (fun v s1 h1 => ?_) nev_seg)))
  rw [hs v]
  refine seg_bind_wrap (wpAny_pure (seg_bind_wrap (wpAny_standAt (seg_bind_wrap (wpAny_holding (wpAny_mono h1 (fun it s2 h2 => ?_) nev_seg))))))
  exact seg_call fun p => h2 _ p
end
section
variable {P : Program} {w : World} {A : Around} {R : GenEnd} {Y : Protocol} {n : Nat} {s₀ s : Shared} {fs : List Frame} {env : Env}
theorem sg_turn {target : Expr} {it : Value} {body orelse : List Stmt}
    (h : wpAny (model P w) (A.over (.forLoop target it body orelse env) fs) (pyNext it) (fun r s1 => ∃ v, r = some v ∧ wpAny (model P w) (A.over (.forLoop target it body orelse env) fs) (letOwnedTupleGo target it v) (fun _ s2 =>
      wpAny (model P w) (A.over (.forLoop target it body orelse env) fs) (assign target env v) (fun _ s3 => ∀ K J gd lv, gd false = false → Seg (model P w) A R Y n s₀ (.forLoop target it body orelse env) ((execs body env).wrap K J gd lv) fs s3) Nev s2) Nev s1) Nev s) :
    Seg (model P w) A R Y n s₀ (.forLoop target it body orelse env) ((model P w).den (.forLoop target it body orelse env)) fs s := by
  show Seg _ A R Y n s₀ _ ((forTurn target it body orelse env).onRaise (fun x => do noteFrame x env; theTreesLotGoes x)) fs s
  rw [Sem.onRaise_eq_wrap]
  unfold forTurn
  refine seg_bind_wrap (wpAny_standAt (seg_bind_wrap (wpAny_onRaise (wpAny_mono h (fun r s1 h1 => ?_) fun _ _ z => z.elim))))
  obtain ⟨v, rfl, h1⟩ := h1
  refine seg_bind_wrap (wpAny_mono h1 (fun _ s2 h2 => ?_) nev_seg)
  refine seg_bind_wrap (wpAny_mono h2 (fun _ s3 h3 => ?_) nev_seg)
  rw [Sem.bind_eq_wrap', Sem.wrap_wrap]
  exact h3 _ _ _ _ rfl
end
/-! ### what is handed out -/
abbrev Yp (Z : Value → Shared → Prop) (on : Bool) : Protocol := fun _ _ v s kap => Z v s ∧ (on = true → ∀ s', kap (.send .none) s' ∧ kap (.send (.bool true)) s')
abbrev Rp0 : GenEnd := fun n s₀ r s₁ => ((r = .ok (.ret .none) ∨ r = .ok .next) ∧ (n = 0 ∧ s₁ = s₀)) ∨ ∃ e, r = .error e ∧ Nev e s₁
/-- the inner context's end, seen from the outer one -/
theorem Inv.back {X : Cx} {pins : List (Addr × Obj)} {τ σ : L2.St} {H H' : Hp} {s s' : Shared} {N : List Str} {qual : Str} {scope : Scope} {f : Addr} {cdv : Value} {A : Around} {a : Addr} {go : Obj} (I : Inv X pins τ H s) (ha : s.heap.objs.size ≤ a)
    (J : Inv (gX X N qual scope f cdv A s H) [(a, go)] σ H' s') : Inv X (pins ++ [(a, go)]) τ H' s' ∧ FpOk X pins H' a := by
  have I2 : Inv X pins τ H' s' := Inv.call' (ch := []) I J.os J.base J.hok J.bare fun b z => by simp at z
  obtain ⟨p1, p2, p3, p4, p5⟩ := J.pin (a, go) (List.mem_append_right _ (List.mem_singleton.mpr rfl))
  have fp : FpOk X pins H' a := I.fpOk ha p2
  refine ⟨I2.pins_of fun p hp => ?_, fp⟩
  rcases List.mem_append.mp hp with z | z
  · exact I2.pin p (List.mem_append_right _ z)
  · rw [List.mem_singleton.mp z]
    exact ⟨p1, p2, fp.2.1, fp.2.2.1, p5⟩
section
variable {F : Fx} {X : Cx} {N : List Str} {qual : Str} {scope : Scope} {f : Addr} {cdv : Value} {A : Around} {s s2 : Shared} {H : Hp} {τ : L2.St}
  {test ye ye2 it1 tg1 tg2 : Expr} {yp yp2 p1 p2 p3 p4 p5 p6 : Pos} {rest : List Stmt} {fq : Sg → Store → Out Bool} {fy : FE} {pins : List (Addr × Obj)}
/-- none: () is handed out, then it ends -/
theorem go0 {ρ : List Addr} {σ : Sg} (hco : scope.isCoroutine = false) (hi : interactive (envOfC qual scope s.heap.objs.size f cdv) = false) (ht : PT (gX X N qual scope f cdv A s H) test (tQ F WN fq)) (hy : PE (gX X N qual scope f cdv A s H) ye (tE F WN fy))
    (J : Inv (gX X N qual scope f cdv A s H) pins τ H s2) (rs : RelS F ρ H []) (rg : RelG F ρ H σ τ) (q1 : fq σ [] = .ok true []) (q2 : fy σ [] = .ok (.tup []) []) :
    Seg (model X.prog X.w) A Rp0 (Yp (fun v s3 => ∃ x τ3 H3 ρ3, Inv (gX X N qual scope f cdv A s H) pins τ3 H3 s3 ∧ RelV x v ∧ Ext ρ H ρ3 H3 ∧ RelS F ρ3 H3 [] ∧ Rp F ρ3 H3 (.tup []) x) true) 1 s2
      (.func (.If test [.Expr (.Yield (some ye) yp) p1, .Return none p2] [] p3 :: rest) (envOfC qual scope s.heap.objs.size f cdv)) ((model X.prog X.w).den (.func (.If test [.Expr (.Yield (some ye) yp) p1, .Return none p2] [] p3 :: rest) (envOfC qual scope s.heap.objs.size f cdv))) [] s2 := by
  refine seg_func (seg_execs_cons (sg_if ?_))
  rw [over_func]
  refine wpAny_mono (ht.run pins s2 τ H (fun b H3 => b = true ∧ ∃ ρ3, Ext ρ H ρ3 H3 ∧ RelS F ρ3 H3 [] ∧ RelG F ρ3 H3 σ τ) J ⟨ρ, σ, [], rs, rg, ?_⟩) (fun b s3 h3 => ?_) fun _ _ z => z
  · rw [q1]
    exact fun ρ3 b H3 x3 rs3 e => ⟨e.symm, ρ3, x3, rs3, rg.mono x3⟩
  obtain ⟨H3, J3, rfl, ρ3, x3, rs3, rg3⟩ := h3
  rw [if_pos rfl]
  refine seg_execs_cons (seg_Expr_Yield rfl rfl rfl ?_ hco hi)
  rw [over_func]
  refine wpAny_mono (hy.run pins s3 τ H3 (fun x H4 => ∃ ρ4, Ext ρ H ρ4 H4 ∧ RelS F ρ4 H4 [] ∧ Rp F ρ4 H4 (.tup []) x) J3 ⟨ρ3, σ, [], rs3, rg3, ?_⟩) (fun v s4 h4 => ?_) fun _ _ z => z.elim
  · rw [q2]
    exact fun ρ4 x H4 x4 rs4 r4 => ⟨ρ4, x3.trans x4, rs4, r4⟩
  obtain ⟨x, H4, J4, rv, ρ4, x4, rs4, r4⟩ := h4
  intro kap hk
  refine ⟨⟨x, τ, H4, ρ4, J4, rv, x4, rs4, r4⟩, fun _ s5 => ?_⟩
  suffices z : _ from ⟨hk .none s5 z, hk (.bool true) s5 z⟩
  refine seg_execs_cons ?_
  rw [show exec (.Return none p2) (envOfC qual scope s.heap.objs.size f cdv) = (do standAt p2; pure (.ret .none)) from rfl]
  refine seg_bind_wrap (wpAny_standAt ?_)
  exact seg_end (.ok (.ret .none)) (.inl ⟨.inl rfl, rfl, rfl⟩)
end
end Mg
set_option Elab.async false
set_option linter.all false
set_option maxRecDepth 100000
set_option maxHeartbeats 2000000
namespace Mg
open PySem PySem.Spec PyProof.Rows L2 GenW Mp
/-- what is known of the generator def `subsets`: its parts' meaning, in each context of its body -/
structure SubG (F : Fx) (P : Program) (w : World) (K : PySem.W.Frag) (mg : Str → Option Value) (base : Heap) (lv : Nat) (N ps : List Str) (qual : Str) (scope : Scope) (f : Addr) (cdv : Value)
    (test ye : Expr) (yp p1 p2 p3 : Pos) (rest : List Stmt) (fq : Sg → Store → Out Bool) (fy : FE) : Prop where
  df : GDef K N ps qual scope (.If test [.Expr (.Yield (some ye) yp) p1, .Return none p2] [] p3 :: rest) f cdv
  hi : ∀ L, interactive (envOfC qual scope L f cdv) = false
  ht : ∀ st A s H, Room lv (A.deeper (envOfC qual scope s.heap.objs.size f cdv)) → PT (gR P w K mg base st N qual scope f cdv A s H) test (tQ F WN fq)
  hy : ∀ st A s H, Room lv (A.deeper (envOfC qual scope s.heap.objs.size f cdv)) → PE (gR P w K mg base st N qual scope f cdv A s H) ye (tE F WN fy)
abbrev sg0 (N : List Str) (ws : List W) : Sg := ws.map some ++ List.replicate (N.length - ws.length) none
section
variable {F : Fx} {X : Cx} {lv : Nat} {N ps : List Str} {qual : Str} {scope : Scope} {f : Addr} {cdv : Value} {body : List Stmt} {vs : List V} {ws : List W} {a : Addr} {go : Obj} {s s1 : Shared} {H : Hp} {τ : L2.St} {pins : List (Addr × Obj)} {ρ : List Addr} {M : Store}
  {test ye : Expr} {yp p1 p2 p3 : Pos} {rest : List Stmt} {fq : Sg → Store → Out Bool} {fy : FE}
theorem rs_nil (rs : RelS F ρ H M) : RelS F [] H [] := ⟨rfl, List.nodup_nil, fun l o a h => by simp at h, rs.tab⟩
theorem Born.isGen {h : Heap} (B : Born X N qual scope body f cdv vs s H a go s1) (e : h.get? a = some go) : h.IsGen a s.gens.size := by
  obtain ⟨nm, qn, hd⟩ := B.dat
  exact ⟨go, nm, qn, e, B.cls, hd, B.sl⟩
/-- what stands behind the first turn -/
structure Turned (F : Fx) (X : Cx) (pins : List (Addr × Obj)) (τ : L2.St) (ρ : List Addr) (M : Store) (H : Hp) (a : Addr) (go : Obj) (w : W) (v : Value) (H2 : Hp) (s2 : Shared) : Prop where
  inv : Inv X (pins ++ [(a, go)]) τ H2 s2
  fp : FpOk X pins H2 a
  ext : Ext ρ H ρ H2
  rs : RelS F ρ H2 M
  rp : ∃ x, RelV x v ∧ Rp F ρ H2 w x
theorem first_turn {Z : Value → Shared → Prop} {on : Bool} {w : W} (I : Inv X pins τ H s) (B : Born X N qual scope body f cdv vs s H a go s1) (hw : inl w = true) (rs : RelS F ρ H M) (hr : X.A.depth < recursionLimit) (hh : X.A.handled = none)
    (hZ : ∀ v s3, Z v s3 → ∃ x τ3 H3 ρ3, Inv (gX X N qual scope f cdv X.A.in1 s H) [(a, go)] τ3 H3 s3 ∧ RelV x v ∧ Ext [] H ρ3 H3 ∧ RelS F ρ3 H3 [] ∧ Rp F ρ3 H3 w x)
    (go1 : ∀ s2, Inv (gX X N qual scope f cdv X.A.in1 s H) [(a, go)] (start N vs) H s2 → Seg (model X.prog X.w) X.A.in1 Rp0 (Yp Z on) 1 s2 (.func body (envOfC qual scope s.heap.objs.size f cdv)) ((model X.prog X.w).den (.func body (envOfC qual scope s.heap.objs.size f cdv))) [] s2) :
    wpAny (model X.prog X.w) X.A (pyNext (.ref a)) (fun r s2 => ∃ v H2, r = some v ∧ Turned F X pins τ ρ M H a go w v H2 s2 ∧
      ∃ gs', s2.gens[s.gens.size]? = some gs' ∧ gs'.bare = true ∧ (on = true → (∃ k l c p fs, gs' = .suspended k l c p fs false) ∧ ∀ s3, gs'.Goes (model X.prog X.w) X.A.in1 Rp0 (Yp Z on) 0 (.send .none) s3)) X.xe s1 := by
  have lim : s1.heap.NoLimit := I.nolimit.keeps B.keep
  have gl : s.gens.size < s1.gens.size := (Array.getElem?_eq_some_iff.mp B.gen).1
  have wk := B.wake X.A.in1 hh I.ok.frames (s1.setGen s.gens.size .running) (fun b o e => e) B.os (allBare_setGen B.bare rfl)
  refine wpAny_gsz (n := s.gens.size + 1) gl ?_
  refine next_genG (n := 1) (F := fun n s₀ s₁ => n = 0 ∧ s₁ = s₀) (Er := Nev) (Y := Yp Z on) hh lim hr (B.isGen B.at_) B.gen ⟨rfl, go1 _ wk⟩ ?_ ?_ ?_
  · rintro v s3 gs' hb ⟨hz, hk⟩
    obtain ⟨x, τ3, H3, ρ3, J, rv, x3, rs3, r3⟩ := hZ v s3 hz
    obtain ⟨I3, fp⟩ := Inv.back I B.young J
    obtain ⟨e3, rsM⟩ := Ext.nil rs x3
    intro hsz
    have hsz' : s.gens.size < s3.gens.size := by
      have q : (s3.setGen s.gens.size gs').gens.size = s3.gens.size := setGen_size _ _ _
      omega
    refine ⟨v, H3, rfl, ⟨Mg.Inv.gens I3 (allBare_setGen I3.bare hb), fp, e3, rsM, x, rv, Rp.inl w x hw r3⟩, gs', setGen_at hsz', hb, fun e => ⟨?_, fun s4 => (hk e s4).1⟩⟩
    have k2 := (hk e s3).2
    cases gs' with
    | fresh c => exact nomatch (show Resume.send (.bool true) = .send .none from k2.1)
    | suspended k l c p fs cl =>
      cases cl with
      | false => exact ⟨k, l, c, p, fs, rfl⟩
      | true => cases hb
    | running => exact k2.elim
    | finished => exact k2.elim
  · rintro s3 ⟨z, _⟩
    exact absurd z (by decide)
  · intro e s3 h; exact h.elim
/-- the turn that ends it -/
theorem last_turn {Z : Value → Shared → Prop} {s3 : Shared} {H3 : Hp} {gs' : GenState} (I : Inv X (pins ++ [(a, go)]) τ H3 s3) (B : Born X N qual scope body f cdv vs s H a go s1) (hr : X.A.depth < recursionLimit) (hh : X.A.handled = none) (hg : s3.gens[s.gens.size]? = some gs')
    (go1 : ∀ s4, gs'.Goes (model X.prog X.w) X.A.in1 Rp0 (Yp Z true) 0 (.send .none) s4) : wpAny (model X.prog X.w) X.A (pyNext (.ref a)) (fun r s4 => r = none ∧ Inv X pins τ H3 s4) X.xe s3 := by
  have I' : Inv X pins τ H3 s3 := I.unpinned
  refine next_genG (n := 0) (F := fun n s₀ s₁ => n = 0 ∧ s₁ = s₀) (Er := Nev) (Y := Yp Z true) hh I.nolimit hr (B.isGen (I.pin (a, go) (List.mem_append_right _ (List.mem_append_right _ (List.mem_singleton.mpr rfl)))).1) hg (go1 _) ?_ ?_ ?_
  · rintro v s4 gs2 hb ⟨hz, hk⟩
    exact (hk rfl s4).1.elim
  · rintro s4 ⟨_, rfl⟩ h' hk
    refine ⟨rfl, ?_⟩
    have I2 := Inv.kept (h' := h') (t' := s3.toks) I' hk
    exact Mg.Inv.gens I2 (allBare_setGen (s := s3.setGen s.gens.size .running) (allBare_setGen I.bare rfl) rfl)
  · intro e s4 h; exact h.elim
end
/-! ### what sleeps is left as it is -/
theorem Rel.bare {T : Nat → Option Slp} {a b : Array GenState} (h : Rel T a b) (ha : AllBare a) : AllBare b := fun x hx => by
  obtain ⟨i, hi, e⟩ := Array.mem_iff_getElem.mp hx
  have e' : b[i]? = some x := by rw [Array.getElem?_eq_getElem hi, e]
  cases q : T i with
  | none => rw [(h.un i q).1] at e'; exact ha x (Array.mem_of_getElem? e')
  | some z => rw [(h.tr i z q).2] at e'; cases e'; rfl
theorem run_kept {α : Type} {M : Model} {A : Around} {t : Sem α} {Q : α → Shared → Prop} {s : Shared} {g : Nat} {gs : GenState} (hb : AllBare s.gens) (hg : s.gens[g]? = some gs) (hs : ∃ k l c p fs, gs = .suspended k l c p fs false)
    (h : ∀ b, AllBare b → wpAny M A t Q Nev (ov s b)) (hq : ∀ a s1, Q a s1 → AllBare s1.gens) : wpAny M A t (fun a s' => ∃ s1, s' = ov s1 s'.gens ∧ Q a s1 ∧ AllBare s'.gens ∧ s'.gens[g]? = some gs) Nev s := by
  have w := wpAny_trap (s := ov s (s.gens.map trapIt)) (rel_all hb) (h _ (bare_trap hb))
  refine wpAny_mono w (fun a s' h' => ?_) fun _ _ ⟨_, _, _, _, z⟩ => z.elim
  obtain ⟨s1, b', rfl, r, q⟩ := h'
  refine ⟨s1, rfl, q, Rel.bare r (hq a s1 q), ?_⟩
  obtain ⟨k, l, c, p, fs, rfl⟩ := hs
  exact (r.tr g ⟨k, l, c, p, fs⟩ (by unfold trapsOf; rw [hg]; rfl)).2
end Mg
set_option Elab.async false
set_option linter.all false
set_option maxRecDepth 100000
set_option maxHeartbeats 4000000
namespace Mg
open PySem PySem.Spec PyProof.Rows L2 GenW Mp
section
variable {F : Fx} {Wx : WX} {X : Cx} {lv : Nat} {N ps : List Str} {qual : Str} {scope : Scope} {f : Addr} {cdv : Value} {body : List Stmt} {s : Shared} {H : Hp} {τ : L2.St} {pins : List (Addr × Obj)}
/-- the call's value has not begun -/
theorem eval_gen {x : Str} {p pos : Pos} {e : Expr} {es : List Expr} {t : TA} {Q : List V → Hp → Prop} (D : GDef X.K N ps qual scope body f cdv) (hr : X.A.depth < recursionLimit) (I : Inv X pins τ H s) (hm : X.mg x = some (.ref f)) (ha : PA X (e :: es) t)
    (q : t τ H fun vs H1 => vs.length = ps.length ∧ Q vs H1) (hg : Gl X x) (hdb : (x == ("__debug__" : Str)) = false) (he : starEach (e :: es) X.env = (false, eval e X.env) :: starEach es X.env) (hpl : (backTo pos (starEach es X.env)).any (·.1) = false) :
    wpAny (model X.prog X.w) X.A (eval (.Call (.Name x p) (e :: es) [] pos) X.env) (fun u s2 => ∃ vs s1 H1 a go, u = .ref a ∧ Inv X pins τ H1 s1 ∧ Q vs H1 ∧ Born X N qual scope body f cdv vs s1 H1 a go s2) X.xe s := by
  refine wpAny_Call_Name_kw (ld_glob I hg hm ?_ hdb)
  refine PySem.W.callWith_K (h₀ := X.base) I.ok.mod.kin D.kp (thn (ha.run pos pins s τ H _ I q) fun us s1 ⟨vs, H1, I1, r, hl, q1⟩ => ⟨I1.kIn, ?_⟩) he hpl
  exact thn (born D hr I1 r hl) fun u s2 ⟨a, go, e, B⟩ => ⟨vs, s1, H1, a, go, e, I1, q1, B⟩
theorem letgo_gen {E : Value → Shared → Prop} {vs : List V} {s1 s3 : Shared} {H1 : Hp} {a : Addr} {go : Obj} {tg : Expr} {v : Value} {Q : Unit → Shared → Prop} (B : Born X N qual scope body f cdv vs s1 H1 a go s) (e : s3.heap.get? a = some go) (q : Q () s3) :
    wpAny (model X.prog X.w) X.A (letOwnedTupleGo tg (.ref a) v) Q E s3 := by
  obtain ⟨nm, qn, hd⟩ := B.dat
  exact go_of e B.cls hd rfl q
end
/-- the second part of `subsets`, in each context of its body -/
structure SubH (F : Fx) (P : Program) (w : World) (K : PySem.W.Frag) (mg : Str → Option Value) (base : Heap) (lv : Nat) (N : List Str) (qual : Str) (scope : Scope) (f : Addr) (cdv : Value)
    (tg1 it1 tg2 : Expr) (x : Str) (p cp : Pos) (e : Expr) (es : List Expr) (ye2 : Expr) (fi : FI) (t1 t2 : Tg) (is1 is2 : List Nat) (r2 : FA) (fy2 : FE) : Prop where
  hi1 : ∀ st A s H, Room lv (A.deeper (envOfC qual scope s.heap.objs.size f cdv)) → PI (gR P w K mg base st N qual scope f cdv A s H) tg1 it1 (tI F WN fi)
  hg1 : ∀ st A s H, Room lv (A.deeper (envOfC qual scope s.heap.objs.size f cdv)) → PG (gR P w K mg base st N qual scope f cdv A s H) tg1 (tGW F is1 fun w σ M => asgT t1 w σ M)
  ha : ∀ st A s H, Room lv (A.deeper (envOfC qual scope s.heap.objs.size f cdv)) → PA (gR P w K mg base st N qual scope f cdv A s H) (e :: es) (tL F WN r2)
  hg2 : ∀ st A s H, Room lv (A.deeper (envOfC qual scope s.heap.objs.size f cdv)) → PG (gR P w K mg base st N qual scope f cdv A s H) tg2 (tGW F is2 fun w σ M => asgT t2 w σ M)
  hy2 : ∀ st A s H, Room lv (A.deeper (envOfC qual scope s.heap.objs.size f cdv)) → PE (gR P w K mg base st N qual scope f cdv A s H) ye2 (tE F WN fy2)
  hgl : ∀ L, (envOfC qual scope L f cdv).kindOf x = some .globalImplicit
  hm : mg x = some (.ref f)
  hdb : (x == ("__debug__" : Str)) = false
  he : ∀ L, starEach (e :: es) (envOfC qual scope L f cdv) = (false, eval e (envOfC qual scope L f cdv)) :: starEach es (envOfC qual scope L f cdv)
  hpl : ∀ L, (backTo cp (starEach es (envOfC qual scope L f cdv))).any (·.1) = false
  hs1 : ∀ L x, foldedSetIterable it1 (envOfC qual scope L f cdv) x = pure x
  hs2 : ∀ L y, foldedSetIterable (.Call (.Name x p) (e :: es) [] cp) (envOfC qual scope L f cdv) y = pure y
section
variable {F : Fx} {X : Cx} {lv : Nat} {N ps : List Str} {qual : Str} {scope : Scope} {f : Addr} {cdv : Value} {A : Around} {s s2 : Shared} {H : Hp} {τ : L2.St} {pins : List (Addr × Obj)}
  {test ye ye2 it1 tg1 tg2 e : Expr} {es : List Expr} {x : Str} {yp yp2 p cp p1 p2 p3 p4 p5 p6 : Pos} {fq : Sg → Store → Out Bool} {fy fy2 : FE} {fi : FI} {t1 t2 : Tg} {is1 is2 : List Nat} {r2 : FA}
abbrev rest1 (tg1 it1 tg2 : Expr) (x : Str) (p cp : Pos) (e : Expr) (es : List Expr) (ye2 : Expr) (yp2 p4 p5 p6 : Pos) : List Stmt := [.For tg1 it1 [.For tg2 (.Call (.Name x p) (e :: es) [] cp) [.Expr (.Yield (some ye2) yp2) p4] [] p5] [] p6]
theorem go1 {ρ : List Addr} {σ σ1 σ2 : Sg} {w0 w3 : W} {wr ws : List W} (S : SubG F X.prog X.w X.K X.mg X.base lv N ps qual scope f cdv test ye yp p1 p2 p3 (rest1 tg1 it1 tg2 x p cp e es ye2 yp2 p4 p5 p6) fq fy)
    (T : SubH F X.prog X.w X.K X.mg X.base lv N qual scope f cdv tg1 it1 tg2 x p cp e es ye2 fi t1 t2 is1 is2 r2 fy2) (hr : Room lv (A.deeper (envOfC qual scope s.heap.objs.size f cdv))) (hrr : ∀ L, Room lv ((A.deeper (envOfC qual scope s.heap.objs.size f cdv)).in1.deeper (envOfC qual scope L f cdv)))
    (J : Inv (gX X N qual scope f cdv A s H) pins τ H s2) (rs : RelS F ρ H []) (rg : RelG F ρ H σ τ) (q1 : fq σ [] = .ok false []) (q2 : fi σ [] = .ok (w0 :: wr) []) (q3 : asgT t1 w0 σ [] = some σ1) (q4 : r2 σ1 [] = .ok ws []) (q5 : ws.length = ps.length) (qi : inls ws = true)
    (q6 : fq (sg0 N ws) [] = .ok true []) (q7 : fy (sg0 N ws) [] = .ok (.tup []) []) (q8 : asgT t2 (.tup []) σ1 [] = some σ2) (q9 : fy2 σ2 [] = .ok w3 []) :
    Seg (model X.prog X.w) A Rp0 (Yp (fun v s3 => ∃ x τ3 H3 ρ3, Inv (gX X N qual scope f cdv A s H) pins τ3 H3 s3 ∧ RelV x v ∧ Ext ρ H ρ3 H3 ∧ RelS F ρ3 H3 [] ∧ Rp F ρ3 H3 w3 x) false) 1 s2
      (.func (.If test [.Expr (.Yield (some ye) yp) p1, .Return none p2] [] p3 :: rest1 tg1 it1 tg2 x p cp e es ye2 yp2 p4 p5 p6) (envOfC qual scope s.heap.objs.size f cdv))
      ((model X.prog X.w).den (.func (.If test [.Expr (.Yield (some ye) yp) p1, .Return none p2] [] p3 :: rest1 tg1 it1 tg2 x p cp e es ye2 yp2 p4 p5 p6) (envOfC qual scope s.heap.objs.size f cdv))) [] s2 := by
  refine seg_func (seg_execs_cons (sg_if ?_))
  rw [over_func]
  refine wpAny_mono ((S.ht X.stack A s H hr).run pins s2 τ H (fun b H3 => b = false ∧ ∃ ρ3, Ext ρ H ρ3 H3 ∧ RelS F ρ3 H3 [] ∧ RelG F ρ3 H3 σ τ) J ⟨ρ, σ, [], rs, rg, ?_⟩) (fun b s3 h3 => ?_) fun _ _ z => z
  · rw [q1]
    exact fun ρ3 b H3 x3 rs3 e => ⟨e.symm, ρ3, x3, rs3, rg.mono x3⟩
  obtain ⟨H3, J3, rfl, ρ3, x3, rs3, rg3⟩ := h3
  rw [if_neg Bool.false_ne_true]
  refine seg_execs_nil (seg_execs_cons (sg_for (T.hs1 _) ?_))
  rw [over_func]
  -- for place in range(..)
  refine wpAny_mono ((T.hi1 X.stack A s H hr).run pins s3 τ H3 (fun Jt H4 => ∃ ρ4, Ext ρ H ρ4 H4 ∧ RelS F ρ4 H4 [] ∧ RelG F ρ4 H4 σ τ ∧ ItOk F Jt (w0 :: wr) ρ4 H4) J3 ⟨ρ3, σ, [], rs3, rg3, ?_⟩) (fun v4 s4 h4 => wpAny_mono h4 (fun itv s5 h5 => ?_) fun _ _ z => z) fun _ _ z => z
  · rw [q2]
    exact fun ρ4 Jt H4 x4 rs4 ok4 => ⟨ρ4, x3.trans x4, rs4, rg3.mono x4, ok4⟩
  obtain ⟨it, fp, tn, Jt, H5, rfl, J5, TT, st5, fp5, ρ5, x5, rs5, rg5, ok5⟩ := h5
  intro k pk
  obtain ⟨_, ok5⟩ := ok5 ρ5 H5 Ext.refl.toExtB
  obtain ⟨g5, y5⟩ := ok5 0 w0 rfl
  refine sg_turn ?_
  rw [over_loop rfl rfl, over_func]
  refine wpAny_mono (TT.item (gX X N qual scope f cdv A s H) rfl rfl rfl rfl 0 pins s5 τ H5 Nev J5 fp5 st5 g5) (fun r s6 h6 => ?_) fun _ _ z => z
  obtain ⟨u, rfl, h6⟩ := h6
  refine ⟨u, rfl, wpAny_mono h6 (fun _ s7 h7 => ?_) fun _ _ z => z⟩
  obtain ⟨xv, H7, J7, rv7, yl7, _, _⟩ := h7
  obtain ⟨x7, m7, r7⟩ := y5 xv H7 yl7
  have rs7 := m7 [] rs5
  refine wpAny_mono ((T.hg1 X.stack A s H hr).run pins s7 τ H7 xv u (fun τ8 H8 => H8 = H7 ∧ RelG F ρ5 H7 σ1 τ8) J7 rv7 ⟨ρ5, σ, [], w0, rs7, rg5.mono x7, r7, σ1, q3, fun τ1 g1 _ => ⟨rfl, g1⟩⟩) (fun _ s8 h8 => ?_) fun _ _ z => z
  obtain ⟨τ8, H8, J8, rfl, rg8⟩ := h8
  intro K1 J1 gd1 lv1 hgd1
  -- for rest in subsets(..)
  refine seg_execs_cons (sg_for (T.hs2 _) ?_)
  rw [over_loop rfl rfl, over_func]
  refine wpAny_mono (eval_gen (X := gX X N qual scope f cdv A s H) (Q := fun vs H9 => ∃ ρ9, Ext ρ5 H8 ρ9 H9 ∧ RelS F ρ9 H9 [] ∧ RelG F ρ9 H9 σ1 τ8 ∧ Rps F ρ9 H9 ws vs) S.df hr.depth J8 T.hm (T.ha X.stack A s H hr) ⟨ρ5, σ1, [], rs7, rg8, ?_⟩ (T.hgl _) T.hdb (T.he _) (T.hpl _)) (fun v9 s10 h9 => ?_) fun _ _ z => z
  · rw [q4]
    exact fun ρ9 vs H9 x9 rs9 r9 => ⟨by rw [r9.length, q5], ρ9, x9, rs9, rg8.mono x9, r9⟩
  obtain ⟨vs, s9, H9, a, go, rfl, J9, ⟨ρ9, x9, rs9, rg9, r9⟩, B⟩ := h9
  refine wpAny_pyIter_gen (B.isGen B.at_) ?_
  intro k2 pk2
  refine sg_turn ?_
  rw [over_loop rfl rfl, over_loop rfl rfl, over_func]
  have hr2 := hrr s9.heap.objs.size
  refine wpAny_mono (first_turn (F := F) (ρ := ρ9) (M := []) (w := .tup []) J9 B rfl rs9 hr.depth hr.hd (fun v s3 h => h) fun s11 J11 => go0 S.df.sc.co (S.hi _) (S.ht _ _ _ _ hr2) (S.hy _ _ _ _ hr2) J11 (rs_nil rs9) (start_rel (Rps.inl ws vs qi r9)) q6 q7) (fun r s11 h11 => ?_) fun _ _ z => z
  obtain ⟨v, H11, rfl, Tn, _⟩ := h11
  refine ⟨v, rfl, letgo_gen B (Tn.inv.pin (a, go) (List.mem_append_right _ (List.mem_append_right _ (List.mem_singleton.mpr rfl)))).1 ?_⟩
  obtain ⟨xt, rvt, rt⟩ := Tn.rp
  refine wpAny_mono ((T.hg2 X.stack A s H hr).run _ s11 τ8 H11 xt v (fun τ12 H12 => H12 = H11 ∧ RelG F ρ9 H11 σ2 τ12) Tn.inv rvt ⟨ρ9, σ1, [], .tup [], Tn.rs, rg9.mono Tn.ext, rt, σ2, q8, fun τ1 g1 _ => ⟨rfl, g1⟩⟩) (fun _ s12 h12 => ?_) fun _ _ z => z
  obtain ⟨τ12, H12, J12, rfl, rg12⟩ := h12
  intro K2 J2 gd2 lv2 hgd2
  refine seg_execs_cons (seg_Expr_Yield rfl hgd2 ?_ ?_ S.df.sc.co (S.hi _))
  · show (gd1 false || (id false || false)) = false
    rw [hgd1]; rfl
  rw [over_loop rfl rfl, over_loop rfl rfl, over_func]
  refine wpAny_mono ((T.hy2 X.stack A s H hr).run _ s12 τ12 H12 (fun y H13 => ∃ ρ13, Ext ρ9 H12 ρ13 H13 ∧ RelS F ρ13 H13 [] ∧ Rp F ρ13 H13 w3 y) J12.unpinned ⟨ρ9, σ2, [], Tn.rs, rg12, ?_⟩) (fun y s13 h13 => ?_) fun _ _ z => z.elim
  · rw [q9]
    exact fun ρ13 y H13 x13 rs13 r13 => ⟨ρ13, x13, rs13, r13⟩
  obtain ⟨y, H13, J13, ry, ρ13, x13, rs13, r13⟩ := h13
  intro kap hk
  exact ⟨⟨y, τ12, H13, ρ13, J13, ry, ((x5.trans x7).trans x9).trans (Tn.ext.trans x13), rs13, r13⟩, fun z => nomatch z⟩
end
end Mg
set_option Elab.async false
set_option linter.all false
set_option maxRecDepth 100000
set_option maxHeartbeats 4000000
namespace Mg
open PySem PySem.Spec PyProof.Rows L2 GenW Mp
/-- what comes out of subsets(two things, 0 or 1): the first one; whether it is all -/
def subIt (ws : List W) : Option (Bool × W) := match ws with
  | [.lst [.str a, .str b], .int i] => match decide (i = 0) with
    | true => some (true, .tup [])
    | false => match decide (i = 1) with
      | true => some (false, .tup [.str a])
      | false => none
  | _ => none
def subOn (on : Bool) : SOut → SOut
  | .next σ M => match on with
    | true => .next σ M
    | false => .fail
  | .ret w M => .ret w M
  | _ => .fail
abbrev sSub (t : Tg) (r : FA) (b : FS) : FS := fun σ M => (r σ M).st σ fun ws M1 => match subIt ws with
  | some (on, w) => match asgT t w σ M1 with
    | some σ1 => subOn on (b σ1 M1)
    | none => .fail
  | none => .fail
/-- how a turn of the body ends -/
theorem subOn_K {F : Fx} {Wx : WX} {D : Ends} {on : Bool} {ρ : List Addr} {H : Hp} {o : SOut} (q : sK F Wx D ρ H (subOn on o)) : sK F WN { nx := fun τ H => on = true ∧ D.nx τ H, rt := D.rt } ρ H o := by
  cases o with
  | next σ M =>
    cases on with
    | true => exact fun ρ' H' τ' x s g => ⟨rfl, q ρ' H' τ' x s g⟩
    | false => exact q.elim
  | ret w M => exact q
  | exc c es σ M => exact q.elim
  | fail => exact q.elim
section
variable {F : Fx} {Wx : WX} {X : Cx} {lv : Nat} {N ps : List Str} {qual : Str} {scope : Scope} {f : Addr} {cdv : Value}
  {test ye ye2 it1 tg1 tg2 e : Expr} {es : List Expr} {x : Str} {yp yp2 p cp p1 p2 p3 p4 p5 p6 : Pos} {fq : Sg → Store → Out Bool} {fy fy2 : FE} {fi : FI} {t1 t2 : Tg} {is1 is2 : List Nat} {r2 : FA}
  {e0 : Expr} {es0 : List Expr} {x0 : Str} {q0 cp0 pos0 : Pos} {tg : Expr} {t : Tg} {is : List Nat} {body : List Stmt} {r : FA} {fb : FS}
/-- the laws of the readings of the def's parts -/
structure SubL (N ps : List Str) (fq : Sg → Store → Out Bool) (fy fy2 : FE) (fi : FI) (t1 t2 : Tg) (r2 : FA) : Prop where
  two : ps.length = 2
  q6 : ∀ l, fq (sg0 N [.lst l, .int 0]) [] = .ok true []
  q7 : ∀ l, fy (sg0 N [.lst l, .int 0]) [] = .ok (.tup []) []
  q1 : ∀ l, fq (sg0 N [.lst l, .int 1]) [] = .ok false []
  one : ∀ a b, ∃ w0 wr σ1 l σ2, fi (sg0 N [.lst [.str a, .str b], .int 1]) [] = .ok (w0 :: wr) [] ∧ asgT t1 w0 (sg0 N [.lst [.str a, .str b], .int 1]) [] = some σ1 ∧ r2 σ1 [] = .ok [.lst l, .int 0] [] ∧ inls l = true ∧
    asgT t2 (.tup []) σ1 [] = some σ2 ∧ fy2 σ2 [] = .ok (.tup [.str a]) []
theorem s_sub (S : SubG F X.prog X.w X.K X.mg X.base lv N ps qual scope f cdv test ye yp p1 p2 p3 (rest1 tg1 it1 tg2 x p cp e es ye2 yp2 p4 p5 p6) fq fy) (T : SubH F X.prog X.w X.K X.mg X.base lv N qual scope f cdv tg1 it1 tg2 x p cp e es ye2 fi t1 t2 is1 is2 r2 fy2)
    (L : SubL N ps fq fy fy2 fi t1 t2 r2) (hr : Room (lv + 4) X.A) (hp : PassesOwn (model X.prog X.w) X.A X.env X.xe) (hm : X.mg x0 = some (.ref f)) (ha : PA X (e0 :: es0) (tL F Wx r))
    (hg : PG (noX X) tg (tGW F is fun w σ M => asgT t w σ M)) (hb : PSs (noX X) body (tS F WN fb)) (hgl : Gl X x0) (hdb : (x0 == ("__debug__" : Str)) = false) (he : starEach (e0 :: es0) X.env = (false, eval e0 X.env) :: starEach es0 X.env) (hpl : (backTo cp0 (starEach es0 X.env)).any (·.1) = false)
    (hs : ∀ y, foldedSetIterable (.Call (.Name x0 q0) (e0 :: es0) [] cp0) X.env y = pure y) : PS X (.For tg (.Call (.Name x0 q0) (e0 :: es0) [] cp0) body [] pos0) (tS F Wx (sSub t r fb)) := by
  refine ⟨fun pins s τ H D I ⟨ρ, σ, M, rs, rg, q⟩ => ?_⟩
  refine wpAny_For (wpAny_mono (eval_gen (pos := cp0) (p := q0) (ps := ps) (Q := fun vs H1 => ∃ ρ1 ws M1 on w σ1, RelS F ρ1 H1 M1 ∧ RelG F ρ1 H1 σ τ ∧ Rps F ρ1 H1 ws vs ∧ subIt ws = some (on, w) ∧ asgT t w σ M1 = some σ1 ∧ sK F Wx D ρ1 H1 (subOn on (fb σ1 M1))) S.df hr.depth I hm ha ⟨ρ, σ, M, rs, rg, oK_st rg q ?_⟩ hgl hdb he hpl) (fun v s2 h2 => ?_) fun _ _ z => z) hs
  · intro ws M1 _ ρ1 vs H1 x1 rs1 r1 q1
    cases k : subIt ws with
    | none => rw [k] at q1; exact q1.elim
    | some ow =>
      obtain ⟨on, w⟩ := ow
      rw [k] at q1
      dsimp only at q1
      cases k2 : asgT t w σ M1 with
      | none => rw [k2] at q1; exact q1.elim
      | some σ1 =>
        rw [k2] at q1
        refine ⟨?_, ρ1, ws, M1, on, w, σ1, rs1, rg.mono x1, r1, k, k2, q1⟩
        rw [r1.length, L.two]
        unfold subIt at k
        repeat' split at k
        all_goals first | rfl | cases k
  obtain ⟨vs, s1, H1, a, go, rfl, I1, ⟨ρ1, ws, M1, on, w, σ1, rs1, rg1, r1, k, k2, q1⟩, B⟩ := h2
  refine wpAny_pyIter_gen (B.isGen B.at_) ?_
  -- the first turn
  have hrA : Room (lv + 1) (X.A.in1.deeper (envOfC qual scope s1.heap.objs.size f cdv)) := ((hr.in1 (k := lv + 3)).deeper _).mono (by omega)
  have hr1 : Room lv (X.A.in1.deeper (envOfC qual scope s1.heap.objs.size f cdv)) := hrA.mono (by omega)
  have hrr : ∀ L, Room lv ((X.A.in1.deeper (envOfC qual scope s1.heap.objs.size f cdv)).in1.deeper (envOfC qual scope L f cdv)) := fun L => ((((hr.in1 (k := lv + 3)).deeper _).in1).deeper _)
  have turn1 : ∃ Z : Value → Shared → Prop, wpAny (model X.prog X.w) X.A (pyNext (.ref a)) (fun r s2 => ∃ v H2, r = some v ∧ Turned F X pins τ ρ1 M1 H1 a go w v H2 s2 ∧
      ∃ gs', s2.gens[s1.gens.size]? = some gs' ∧ gs'.bare = true ∧ (on = true → (∃ k l c p fs, gs' = .suspended k l c p fs false) ∧ ∀ s3, gs'.Goes (model X.prog X.w) X.A.in1 Rp0 (Yp Z on) 0 (.send .none) s3)) X.xe s2 := by
    unfold subIt at k
    split at k
    · rename_i wa wb i
      split at k
      · rename_i hi
        cases k
        have : i = 0 := of_decide_eq_true hi
        subst this
        exact ⟨_, first_turn (w := .tup []) I1 B rfl rs1 hr.depth hr.hd (fun v s3 h => h) fun s11 J11 => go0 S.df.sc.co (S.hi _) (S.ht _ _ _ _ hr1) (S.hy _ _ _ _ hr1) J11 (rs_nil rs1) (start_rel (Rps.inl _ vs rfl r1)) (L.q6 _) (L.q7 _)⟩
      · split at k
        · rename_i hi
          cases k
          have : i = 1 := of_decide_eq_true hi
          subst this
          obtain ⟨w0, wr, σa, l, σb, l1, l2, l3, l4, l5, l6⟩ := L.one wa wb
          have il : inls [W.lst l, W.int 0] = true := by show (inls l && _) = true; rw [l4]; rfl
          exact ⟨_, first_turn (w := .tup [.str wa]) I1 B rfl rs1 hr.depth hr.hd (fun v s3 h => h) fun s11 J11 => go1 S T hr1 hrr J11 (rs_nil rs1) (start_rel (Rps.inl _ vs rfl r1)) (L.q1 _) l1 l2 l3 (by rw [L.two]; rfl) il (L.q6 _) (L.q7 _) l5 l6⟩
        · cases k
    · cases k
  obtain ⟨Z, turn1⟩ := turn1
  refine codeAny_forLoop_any (fun n s' => (n = 1 ∧ s' = s2) ∨ (n = 0 ∧ on = true ∧ ∃ τ3 H3 gs', Inv X (pins ++ [(a, go)]) τ3 H3 s' ∧ s'.gens[s1.gens.size]? = some gs' ∧ (∀ s3, gs'.Goes (model X.prog X.w) X.A.in1 Rp0 (Yp Z true) 0 (.send .none) s3) ∧ D.nx τ3 H3)) ?_ 1 (.inl ⟨rfl, rfl⟩)
  rintro n s3 (⟨rfl, rfl⟩ | ⟨rfl, rfl, τ3, H3, gs', I3, hg3, hgo, hD⟩)
  · refine wpAny_passesOwn hp (thn turn1 fun r s4 h4 => ?_)
    obtain ⟨v, H4, rfl, Tn, gs', hg4, hb4, hon⟩ := h4
    obtain ⟨xt, rvt, rt⟩ := Tn.rp
    refine letgo_gen B (Tn.inv.pin (a, go) (List.mem_append_right _ (List.mem_append_right _ (List.mem_singleton.mpr rfl)))).1 ?_
    cases on with
    | true =>
      obtain ⟨sus, hgo⟩ := hon rfl
      refine wpAny_mono (run_kept Tn.inv.bare hg4 sus (fun b hb' => hg.run _ (ov s4 b) τ H4 xt v (fun τ5 H5 => H5 = H4 ∧ RelG F ρ1 H4 σ1 τ5) (Mg.Inv.noX (Mg.Inv.gens Tn.inv hb')) rvt ⟨ρ1, σ, M1, w, Tn.rs, rg1.mono Tn.ext, rt, σ1, k2, fun τ1 g1 _ => ⟨rfl, g1⟩⟩) fun _ s5 ⟨_, _, J, _⟩ => J.bare) (fun _ s5 h5 => ?_) fun _ _ z => False.elim z
      obtain ⟨s5', e5, ⟨τ5, H5, J5, rfl, rg5⟩, b5, hg5⟩ := h5
      have J5' : Inv (noX X) (pins ++ [(a, go)]) τ5 H5 s5 := by rw [e5]; exact Mg.Inv.gens J5 b5
      refine wpAny_mono (run_kept b5 hg5 sus (fun b hb' => hb.run _ (ov s5 b) τ5 H5 { nx := fun τ H => true = true ∧ D.nx τ H, rt := D.rt } (Mg.Inv.gens J5' hb') ⟨ρ1, σ1, M1, Tn.rs, rg5, subOn_K (sK.mono q1 Tn.ext)⟩) fun fl s6 h6 => ?_) (fun fl s6 h6 => ?_) fun _ _ z => False.elim z
      · cases fl with
        | next => obtain ⟨_, _, J, _⟩ := h6; exact J.bare
        | brk => obtain ⟨_, _, J, z⟩ := h6; exact z.elim
        | cont => obtain ⟨_, _, J, z⟩ := h6; exact z.elim
        | ret u => obtain ⟨_, _, _, J, _⟩ := h6; exact J.bare
      · obtain ⟨s6', e6, h6, b6, hg6⟩ := h6
        cases fl with
        | next =>
          obtain ⟨τ6, H6, J6, _, hD⟩ := h6
          exact ⟨0, by decide, .inr ⟨rfl, rfl, τ6, H6, gs', Mg.Inv.yesX (by rw [e6]; exact Mg.Inv.gens J6 b6), hg6, hgo, hD⟩⟩
        | brk => obtain ⟨_, _, J, z⟩ := h6; exact z.elim
        | cont => obtain ⟨_, _, J, z⟩ := h6; exact z.elim
        | ret u =>
          obtain ⟨y, τ6, H6, J6, ry, hD⟩ := h6
          exact ⟨y, τ6, H6, (Mg.Inv.yesX (by rw [e6]; exact Mg.Inv.gens J6 b6)).unpinned, ry, hD⟩
    | false =>
      refine wpAny_mono (hg.run _ s4 τ H4 xt v (fun τ5 H5 => H5 = H4 ∧ RelG F ρ1 H4 σ1 τ5) (Mg.Inv.noX Tn.inv) rvt ⟨ρ1, σ, M1, w, Tn.rs, rg1.mono Tn.ext, rt, σ1, k2, fun τ1 g1 _ => ⟨rfl, g1⟩⟩) (fun _ s5 h5 => ?_) fun _ _ z => False.elim z
      obtain ⟨τ5, H5, J5, rfl, rg5⟩ := h5
      refine wpAny_mono (hb.run _ s5 τ5 H5 { nx := fun τ H => false = true ∧ D.nx τ H, rt := D.rt } J5 ⟨ρ1, σ1, M1, Tn.rs, rg5, subOn_K (sK.mono q1 Tn.ext)⟩) (fun fl s6 h6 => ?_) fun _ _ z => False.elim z
      cases fl with
      | next => obtain ⟨_, _, _, z, _⟩ := h6; exact nomatch z
      | brk => obtain ⟨_, _, J, z⟩ := h6; exact z.elim
      | cont => obtain ⟨_, _, J, z⟩ := h6; exact z.elim
      | ret u =>
        obtain ⟨y, τ6, H6, J6, ry, hD⟩ := h6
        exact ⟨y, τ6, H6, (Mg.Inv.yesX J6).unpinned, ry, hD⟩
  · refine wpAny_passesOwn hp (thn (last_turn I3 B hr.depth hr.hd hg3 hgo) fun r s4 ⟨hn, I4⟩ => ?_)
    subst hn
    exact wpAny_execs_nil ⟨τ3, H3, I4, hD⟩
end
end Mg
set_option Elab.async false
set_option linter.all false
set_option maxRecDepth 100000
set_option maxHeartbeats 4000000
namespace Mp
open PySem PySem.Spec PyProof.Rows L2
/-- a zip that was asked i times; the pair that it keeps is not the dict that is filled -/
def ZStD (d zp ti to j1 j2 : Addr) (Sa Sb : Nat → Heap → Prop) (i : Nat) (h : Heap) : Prop :=
  IsTupOf2 h ti (.ref j1) (.ref j2) ∧ Sa i h ∧ Sb i h ∧ ((IsZip h zp ti to .none ∧ ∃ x y, IsTupOf2 h to x y) ∨ ∃ t0 b0 ob0, IsZipHeld h zp ti to t0 b0 ∧ h.get? t0 = some ob0 ∧ t0 ≠ d)
theorem ZStD.st {d zp ti to j1 j2 : Addr} {Sa Sb : Nat → Heap → Prop} {i : Nat} {h : Heap} (z : ZStD d zp ti to j1 j2 Sa Sb i h) : ZSt zp ti to j1 j2 Sa Sb i h :=
  ⟨z.1, z.2.1, z.2.2.1, z.2.2.2.imp id fun ⟨t0, b0, ob0, a, b, _⟩ => ⟨t0, b0, ob0, a, b⟩⟩
section
variable {P : Program} {w : World} {A : Around} {E : Value → Shared → Prop} {s : Shared} {d zp ti to j1 j2 : Addr} {fa fb : List Addr} {na nb i : Nat} {Pa Pb : Nat → Value → Prop} {Sa Sb : Nat → Heap → Prop}
theorem zipD_next {Q : Option Value → Shared → Prop} (S : ZipSep2 zp ti to j1 j2 fa fb) (Da : Draws P w A.in1 j1 fa na Pa Sa) (Db : Draws P w A.in1 j2 fb nb Pb Sb)
    (st : ZStD d zp ti to j1 j2 Sa Sb i s.heap) (hd : d < s.heap.objs.size) (la : i < na) (lb : i < nb)
    (fin : ∀ x y g tk, Pa i x → Pb i y → ZStD d zp ti to j1 j2 Sa Sb (i + 1) g → IsTupOf2 g s.heap.objs.size x y →
      (∀ b o, b ≠ zp → b ≠ to → b ≠ j1 → b ≠ j2 → s.heap.get? b = some o → g.get? b = some o) → Q (some (.ref s.heap.objs.size)) { s with heap := g, toks := tk }) :
    wpAny (model P w) A (pyNext (.ref zp)) Q E s := by
  obtain ⟨hti, sa, sb, h⟩ := st
  rcases h with ⟨hz, x0, y0, hto⟩ | ⟨t0, b0, ob0, hz, h0, nd⟩
  · refine wpAny_pyNext_zipD2_item S Da Db hz hti hto sa sb la lb fun x y g tk px py z1 _ sa1 sb1 hT sz kp => ?_
    exact fin x y g tk px py ⟨kp _ _ S.TIz S.TITO S.TIi1 S.TIi2 hti, sa1, sb1, .inr ⟨_, false, _, z1, hT, Nat.ne_of_gt hd⟩⟩ hT kp
  · have ty : s.TypeIs (.ref zp) "zip" := ⟨_, hz, rfl⟩
    unfold pyNext
    refine wpAny_bind (wpAny_attempt (wpAny_callSpecial?_slot (name := Str.ofString "__next__") ty PySem.F.slot_zip_next (wpAny_call_entry PySem.F.slot_zip_next ty PySem.F.entry_zip_next ?_ (PySem.F.args_zip_next_1 _))))
    refine zipK_item S Da Db hz h0 hti sa sb la lb fun x y g tk px py z1 sa1 sb1 hT sz kp => wpAny_pure ?_
    obtain ⟨o1, q1⟩ : ∃ o1, g.get? t0 = some o1 := by
      by_cases c : t0 = zp
      · subst c
        exact ⟨_, z1⟩
      · by_cases c1 : t0 = j1
        · subst c1
          exact Da.live _ _ sa1
        · by_cases c2 : t0 = j2
          · subst c2
            exact Db.live _ _ sb1
          · exact ⟨_, kp _ _ c c1 c2 h0⟩
    exact fin x y g tk px py ⟨kp _ _ S.TIz S.TIi1 S.TIi2 hti, sa1, sb1, .inr ⟨t0, true, o1, z1, q1, nd⟩⟩ hT fun b o n1 _ n2 n3 q => kp b o n1 n2 n3 q
theorem zip_src (S : ZipSep2 zp ti to j1 j2 fa fb) (Da : Draws P w A.in1 j1 fa na Pa Sa) (Db : Draws P w A.in1 j2 fb nb Pb Sb) (O : ZOut d zp ti to fa fb) :
    PairSrc P w A zp d [zp, to, j1, j2] (min na nb) (fun i k v => Pa i k ∧ Pb i v) (fun i h => i ≤ min na nb ∧ ZStD d zp ti to j1 j2 Sa Sb i h) where
  off := by
    have n1 : d ≠ j1 := fun z => O.a (z ▸ S.mem1)
    have n2 : d ≠ j2 := fun z => O.b (z ▸ S.mem2)
    simp [O.z, O.o, n1, n2]
  frame := fun i h h' ⟨le, b1, b2, b3, b4⟩ k => by
    refine ⟨le, k _ _ O.t.symm b1, Da.frame _ _ _ b2 fun b hb o q => k b o (fun z => O.a (z ▸ hb)) q, Db.frame _ _ _ b3 fun b hb o q => k b o (fun z => O.b (z ▸ hb)) q, ?_⟩
    rcases b4 with ⟨hz, x0, y0, hto⟩ | ⟨t0, b0, ob0, hz, h0, nd⟩
    · exact .inl ⟨k _ _ O.z.symm hz, x0, y0, k _ _ O.o.symm hto⟩
    · exact .inr ⟨t0, b0, _, k _ _ O.z.symm hz, k _ _ nd h0, nd⟩
  item := fun i s Q E hi st hd fin => by
    refine zipD_next S Da Db st.2 hd (by omega) (by omega) fun x y g tk px py z1 hT kp => ?_
    refine fin s.heap.objs.size x y g tk ⟨px, py⟩ (.inl ⟨_, hT, rfl, 0, rfl⟩) ⟨by omega, z1⟩ fun b o hb q => ?_
    simp only [List.mem_cons, List.not_mem_nil, or_false, not_or] at hb
    exact kp b o hb.1 hb.2.1 hb.2.2.1 hb.2.2.2 q
  done := fun s Q E st fin => by
    refine zipK_end S Da Db st.2.st (by omega) (by omega) (by omega) fun g tk kp => fin g tk fun b o hb q => ?_
    simp only [List.mem_cons, List.not_mem_nil, or_false, not_or] at hb
    exact kp b o hb.1 hb.2.1 hb.2.2.1 hb.2.2.2 q
/-- dict(z) -/
theorem dict_zip {Q : Value → Shared → Prop} {kvs : List (Str × Value)} (S : ZipSep2 zp ti to j1 j2 fa fb) (Da : Draws P w A.in1.in1.in1 j1 fa na Pa Sa) (Db : Draws P w A.in1.in1.in1 j2 fb nb Pb Sb) (hh : A.handled = none) (hn : min na nb ≤ sizeLine) (ha : ∀ b ∈ fa, b < s.heap.objs.size) (hb : ∀ b ∈ fb, b < s.heap.objs.size) (N : ZNew zp ti to j1 j2 Sa Sb s.heap)
    (hk : kvs.length = min na nb) (hr : ∀ i k v, Pa i k → Pb i v → ∃ x, kvs[i]? = some (x, v) ∧ (strKind P w).is x k = true)
    (fin : ∀ g tk, g.DictOf (strKind P w) s.heap.objs.size (merged [] kvs) → (∀ b o, b ≠ zp → b ≠ to → b ≠ j1 → b ≠ j2 → s.heap.get? b = some o → g.get? b = some o) → Q (.ref s.heap.objs.size) { s with heap := g, toks := tk }) :
    wpAny (model P w) A (call (.type "dict") [.ref zp]) Q E s := by
  have cz := Heap.lt_size N.z
  have cti := Heap.lt_size N.t
  obtain ⟨x0, y0, hto⟩ := N.o
  have ct := Heap.lt_size hto
  have c1 := ha _ S.mem1
  have c2 := hb _ S.mem2
  have O : ZOut s.heap.objs.size zp ti to fa fb := ⟨Nat.ne_of_gt cz, Nat.ne_of_gt ct, Nat.ne_of_gt cti, fun m => Nat.lt_irrefl _ (ha _ m), fun m => Nat.lt_irrefl _ (hb _ m)⟩
  refine callType_codes (Q₁ := fun obj sd => obj = .ref s.heap.objs.size ∧ sd = { s with heap := s.heap.push { cls := .type "dict", data := .dict #[] } }) PySem.F.kt_called_dict (PySem.F.kt_typeCall_dict_1 _) PySem.F.entry_dict_init (kt_code_dict_new _ ⟨rfl, rfl⟩) fun obj sd hsd => ?_
  obtain ⟨rfl, rfl⟩ := hsd
  have tD : Shared.TypeIs { s with heap := s.heap.push { cls := .type "dict", data := .dict #[] } } (.ref s.heap.objs.size) "dict" := ⟨_, Heap.get?_push_size _ rfl, rfl⟩
  refine ⟨tD, PySem.F.args_dict_init_2 _ _, ?_⟩
  unfold Builtin.«dict.__init__» Builtin.Dict.selfAndRest
  refine wpAny_bind (wpAny_bind (wpAny_notOrdered_dict tD ?_))
  show wpAny _ _ (pure (s.heap.objs.size, [Value.ref zp])) _ _ _
  refine wpAny_pure ?_
  have up : ∀ b o, s.heap.get? b = some o → (s.heap.push { cls := .type "dict", data := .dict #[] }).get? b = some o := fun b o e => Heap.get?_push_of_some _ e
  have upN : ∀ {g : Heap}, (∀ b o, s.heap.get? b = some o → g.get? b = some o) → ZNew zp ti to j1 j2 Sa Sb g := fun k => N.keep O Da Db fun b o _ q => k b o q
  have N1 := upN up
  have tz : Shared.TypeIs { s with heap := s.heap.push { cls := .type "dict", data := .dict #[] } } (.ref zp) "zip" := ⟨_, N1.z, rfl⟩
  show wpAny _ A.in1.in1 (Builtin.Dict.updateFrom _ s.heap.objs.size (.ref zp) [] .none) _ _ _
  unfold Builtin.Dict.updateFrom
  refine wpAny_bind (wpAny_typeOf tz ?_)
  rw [if_pos (by decide)]
  refine wpAny_bind (getAttrOr_miss_zip N1.z rfl rfl rfl zip_no_keys (by decide +kernel) hh fun h1 tk1 k1 => ?_)
  simp only [Option.isNone_none, if_true]
  refine wpAny_bind (wpAny_rule ?_)
  have N2 : ZNew zp ti to j1 j2 Sa Sb h1 := upN fun b o q => k1 b o (up b o q)
  refine wpAny_bind (wpAny_pyIter_zip N2.z ?_)
  have T0 : h1.DictOf (strKind P w) s.heap.objs.size (merged [] (kvs.take 0)) := Heap.DictOf.at' (Heap.DictOf.new s.heap) fun o e => k1 _ o e
  refine wpAny_pure ⟨plainId_quiet plain_update_loop _, update_loop (A := A.in1) (s := { s with heap := h1, toks := tk1 }) (h₀ := h1) (Tab := fun i h => h.DictOf (strKind P w) s.heap.objs.size (merged [] (kvs.take i))) (zip_src (A := A.in1.in1) S Da Db O) .none (fun i h tb => tb.lt_size) (fun i h g tb k => tb.at' fun o e => k _ o (by
      have n1 : s.heap.objs.size ≠ j1 := Nat.ne_of_gt c1
      have n2 : s.heap.objs.size ≠ j2 := Nat.ne_of_gt c2
      simp [O.z, O.o, n1, n2]) e) ?_ ?_ _ 0 _ h1 tk1 rfl (Nat.zero_le _) ⟨Nat.zero_le _, N2.t, N2.a, N2.b, .inl ⟨N2.z, N2.o⟩⟩ T0 fun b o _ _ e => e⟩
  · rintro i k v s3 Q3 E3 hi ⟨pk, pv⟩ tb _ fin3
    obtain ⟨x, hx, his⟩ := hr i k v pk pv
    refine wpAny_dictSet_pairs (hsz := by have := merged_length [] (kvs.take i); rw [List.length_take] at this; simp only [List.length_nil] at this; omega) his tb fun g hm hs => ?_
    exact fin3 g _ (by rw [merged_take_succ [] kvs i (x, v) hx]; exact hm) hs
  · intro g tk tb k
    rw [List.take_of_length_le (Nat.le_of_eq hk)] at tb
    refine ⟨rfl, fin g tk tb fun b o n1 n2 n3 n4 q => k b o (Nat.ne_of_lt (Heap.lt_size q)) (by simp [n1, n2, n3, n4]) (k1 b o (up b o q))⟩
end
end Mp
set_option Elab.async false
set_option linter.all false
set_option maxRecDepth 100000
set_option maxHeartbeats 4000000
namespace Mp
open PySem PySem.Spec PyProof.Rows L2
def strsOf : List W → Option (List Str)
  | [] => some []
  | .str x :: r => (match strsOf r with
    | some us => some (x :: us)
    | none => none)
  | _ :: _ => none
def nodS : List Str → Bool
  | [] => true
  | x :: r => !memS x r && nodS r
def dzW (fz : Bool) (a b : W) (M : Store) : Out W := match walkW a, walkW b with
  | some ws1, some ws2 => (match strsOf ws1 with
    | some us => (match nodS us with
      | true => mkD fz (zipK ws1 ws2) M
      | false => .fail)
    | none => .fail)
  | _, _ => .fail
theorem strs_map : ∀ {ws : List W} {us : List Str}, strsOf ws = some us → ws = us.map .str
  | [], us, h => by cases h; rfl
  | w :: r, us, h => by
    cases w with
    | str x =>
      unfold strsOf at h
      cases e : strsOf r with
      | none => rw [e] at h; cases h
      | some vs => rw [e] at h; cases h; rw [strs_map e]; rfl
    | _ => cases h
theorem memS_of {x : Str} : ∀ {us : List Str}, memS x us = false → x ∉ us
  | [], _ => by simp
  | y :: r, h => by
    unfold memS at h
    by_cases e : y = x
    · rw [decide_eq_true e] at h; cases h
    · rw [decide_eq_false e] at h
      intro hm
      rcases List.mem_cons.mp hm with z | z
      · exact e z.symm
      · exact memS_of h z
theorem nodS_of : ∀ {us : List Str}, nodS us = true → us.Nodup
  | [], _ => List.nodup_nil
  | x :: r, h => by
    obtain ⟨h1, h2⟩ := Bool.and_eq_true_iff.mp (show (!memS x r && nodS r) = true from h)
    exact List.nodup_cons.mpr ⟨memS_of (by simpa using h1), nodS_of h2⟩
theorem zip_mem : ∀ {us : List Str} {ws : List W} {k v : W}, .kv k v ∈ zipK (us.map .str) ws → ∃ x ∈ us, k = .str x
  | [], _, _, _, h => by cases h
  | _ :: _, [], _, _, h => by cases h
  | x :: us, w :: ws, k, v, h => by
    rcases List.mem_cons.mp (show W.kv k v ∈ W.kv (.str x) w :: zipK (us.map .str) ws from h) with z | z
    · cases z; exact ⟨x, List.mem_cons_self, rfl⟩
    · obtain ⟨y, hy, e⟩ := zip_mem z
      exact ⟨y, List.mem_cons_of_mem _ hy, e⟩
theorem zip_dist : ∀ {us : List Str} {ws : List W}, us.Nodup → KDist (zipK (us.map .str) ws)
  | [], _, _ => True.intro
  | _ :: _, [], _ => True.intro
  | x :: us, w :: ws, h => by
    obtain ⟨h1, h2⟩ := List.nodup_cons.mp h
    refine ⟨rfl, fun k' v' hm => ?_, zip_dist h2⟩
    obtain ⟨y, hy, rfl⟩ := zip_mem hm
    show decide (x = y) = false
    exact decide_eq_false fun e => h1 (e ▸ hy)
section
variable {F : Fx} {ρ : List Addr} {H : Hp} {P : Program}
theorem zip_kvT : ∀ {us : List Str} {ws : List W} {ys : List V} {its : List Value}, Rps F ρ H ws ys → Vals ys its → KvT F ρ H (zipK (us.map .str) ws) (us.zip its)
  | [], _, _, _, _, _ => True.intro
  | _ :: _, [], _, _, r, v => by
    cases (show _ = [] from r)
    cases v
    exact True.intro
  | x :: us, w :: ws, _, its, r, v => by
    obtain ⟨y, ys, rfl, r1, r2⟩ := r
    cases v with
    | cons a b => exact ⟨rfl, ⟨y, a, r1⟩, zip_kvT r2 b⟩
theorem txt_at {us : List Str} {xs : List V} {its : List Value} {i : Nat} {k : Value} (r : Rps F ρ H (us.map .str) xs) (v : Vals xs its) (h : its[i]? = some k) : ∃ x t, us[i]? = some x ∧ k = .str x t := by
  induction us generalizing xs its i with
  | nil =>
    cases (show xs = [] from r)
    cases v
    cases h
  | cons u us ih =>
    obtain ⟨y, ys, rfl, r1, r2⟩ := r
    cases v with
    | cons a b =>
      cases i with
      | zero =>
        cases (show y = .str u from r1)
        obtain ⟨t, e⟩ := a
        rw [List.getElem?_cons_zero] at h
        cases h
        exact ⟨u, t, rfl, e⟩
      | succ i => exact ih r2 b (by simpa using h)
theorem zip_fst : ∀ {us : List Str} {its : List Value} {x : Str}, x ∈ (us.zip its).map (·.1) → x ∈ us
  | [], _, _, h => by cases h
  | _ :: _, [], _, h => by cases h
  | u :: us, v :: its, x, h => by
    rcases List.mem_cons.mp (show x ∈ u :: (us.zip its).map (·.1) from h) with z | z
    · rw [z]; exact List.mem_cons_self
    · exact List.mem_cons_of_mem _ (zip_fst z)
theorem zip_keys : ∀ {us : List Str} {its : List Value}, us.Nodup → ((us.zip its).map (·.1)).Nodup
  | [], _, _ => List.nodup_nil
  | _ :: _, [], _ => List.nodup_nil
  | u :: us, v :: its, h => by
    obtain ⟨h1, h2⟩ := List.nodup_cons.mp h
    exact List.nodup_cons.mpr ⟨fun z => h1 (zip_fst z), zip_keys h2⟩
end
section
variable {F : Fx} {X : Cx}
theorem zip_dict (ok : CxOk F X) (hc : X.calm = true) (fz : Bool) {pins : List (Addr × Obj)} {τ : L2.St} {H : Hp} {s : Shared} {ρ : List Addr} {M : Store} {w1 w2 : W} {x1 x2 : V} {u1 u2 : Value} {Q : VK} {E : XK} (I : Inv X pins τ H s) (rs : RelS F ρ H M)
    (r1 : Rp F ρ H w1 x1) (r2 : Rp F ρ H w2 x2) (ru : RelV x1 u1) (ru2 : RelV x2 u2) (q : oK F (Rp F) E Q ρ H (dzW fz w1 w2 M)) (hh : X.A.handled = none) :
    wpAny (model X.prog X.w) X.A (call (.type "zip") [u1, u2]) (fun v s2 => wpAny (model X.prog X.w) X.A (call (.type "dict") [v]) (EP X pins τ (lk Q)) X.xe s2) X.xe s := by
  unfold dzW at q
  split at q
  · rename_i ws1 ws2 ew1 ew2
    split at q
    · rename_i us eus
      split at q
      · rename_i end1
        have ews := strs_map eus
        subst ews
        have ndu := nodS_of end1
        obtain ⟨a, xs, Go1, rfl, ⟨S1⟩⟩ := srcW_of ok.k I r1 ew1
        obtain ⟨b, ys, Go2, rfl, ⟨S2⟩⟩ := srcW_of ok.k I r2 ew2
        cases ru
        cases ru2
        have go1 := S1.go _ _ Ext.refl.toExtB
        have go2 := S2.go _ _ Ext.refl.toExtB
        obtain ⟨Hq1, B1, hq1⟩ := S1.src.begin_ X pins s τ H rfl rfl rfl I go1
        obtain ⟨Hq2, B2, hq2⟩ := S2.src.begin_ X pins s τ H rfl rfl rfl I go2
        refine zip_begins2 B1 B2 hq1 hq2 fun h' hz hTI hTO g1 g2 hsz hk => ?_
        have I2 : Inv X pins τ H { s with heap := h' } := I.kept (t' := s.toks) hk
        have hfp : ∀ c, s.heap.objs.size ≤ c → FpOk X pins H c := fun c hle => I.fpOk hle (I.hok.fresh hle)
        have ne1 : ∀ c, s.heap.objs.size ≤ c → c ≠ a := fun c hle => S1.src.apart rfl I go1 (hfp c hle)
        have ne2 : ∀ c, s.heap.objs.size ≤ c → c ≠ b := fun c hle => S2.src.apart rfl I go2 (hfp c hle)
        have up : ∀ k : Nat, s.heap.objs.size ≤ s.heap.objs.size + k := fun k => Nat.le_add_right _ _
        obtain ⟨_, its, Ob1, rv1, hob1, D1⟩ := S1.src.drw { X with A := X.A.in1.in1 } pins _ τ H rfl rfl rfl hc (inv_under I2) go1 s.heap.objs.size 0 (S1.src.start _ _ g1)
        obtain ⟨_, its2, Ob2, rv2, hob2, D2⟩ := S2.src.drw { X with A := X.A.in1.in1 } pins _ τ H rfl rfl rfl hc (inv_under I2) go2 (s.heap.objs.size + 1) 0 (S2.src.start _ _ g2)
        have D5 := zip5 s.heap.objs.size
        have S : ZipSep2 (s.heap.objs.size + 4) (s.heap.objs.size + 2) (s.heap.objs.size + 3) s.heap.objs.size (s.heap.objs.size + 1) [s.heap.objs.size, a] [s.heap.objs.size + 1, b] :=
          ⟨D5.a1, D5.a2, D5.a3, D5.a4, by simp, by simp [D5.a8, ne1 _ (up 4)], by simp [D5.a6, ne1 _ (up 3)], D5.a5, by simp, by simp [D5.a9, ne2 _ (up 4)], by simp [D5.a7, ne2 _ (up 3)], by simp [D5.b1, ne2 _ (Nat.le_refl _)], by simp [D5.b1.symm, ne1 _ (up 1)]⟩
        have lx : xs.length = us.length := by have := S1.rel.length; simpa using this
        have lv2 := rv2.length
        have lzk : (zipK (us.map W.str) ws2).length ≤ sizeLine := by
          unfold mkD at q
          cases e : lenOk (zipK (us.map W.str) ws2).length with
          | true => exact lenOk_le e
          | false => rw [e] at q; exact q.elim
        have le : min xs.length ys.length ≤ sizeLine := by
          have l2 := S2.rel.length
          have hl : (zipK (us.map W.str) ws2).length = min us.length ws2.length := by simp [zipK]
          omega
        have la : a < s.heap.objs.size := Nat.lt_of_not_le fun z => ne1 a z rfl
        have lb : b < s.heap.objs.size := Nat.lt_of_not_le fun z => ne2 b z rfl
        refine dict_zip (kvs := us.zip its2) S D1 D2 hh le (fun c hcm => ?_) (fun c hcm => ?_) ⟨hz, hTI, ⟨_, _, hTO⟩, ⟨S1.src.start _ _ g1, hob1⟩, ⟨S2.src.start _ _ g2, hob2⟩⟩ (by rw [List.length_zip, lx]; omega) (fun i k v pk pv => ?_) fun g tk hd kp => ?_
        · show c < h'.objs.size
          rw [hsz]
          rcases List.mem_cons.mp hcm with z | z
          · rw [z]; exact Nat.lt_add_of_pos_right (by decide)
          · rw [List.mem_singleton.mp z]; exact Nat.lt_of_lt_of_le la (up 5)
        · show c < h'.objs.size
          rw [hsz]
          rcases List.mem_cons.mp hcm with z | z
          · rw [z]; exact Nat.add_lt_add_left (by decide) _
          · rw [List.mem_singleton.mp z]; exact Nat.lt_of_lt_of_le lb (up 5)
        · obtain ⟨x, t, ex, rfl⟩ := txt_at S1.rel rv1 pk
          refine ⟨x, ?_, strKind_is X.prog X.w x t⟩
          rw [List.getElem?_zip_eq_some]
          exact ⟨ex, pv⟩
        rw [merged_nil_of_nodup _ (zip_keys ndu)] at hd
        have big : s.heap.objs.size ≤ h'.objs.size := by rw [hsz]; exact up 5
        have kk : ∀ c o, s.heap.get? c = some o → g.get? c = some o := fun c o e => by
          have lc := Heap.lt_size e
          have nk : ∀ k : Nat, c ≠ s.heap.objs.size + k := fun k => Nat.ne_of_lt (Nat.lt_of_lt_of_le lc (up k))
          exact kp c o (nk 4) (nk 3) (nk 0) (nk 1) (hk c o e)
        obtain ⟨o, es, ep, o1, o2, o3, o4, o5, _⟩ := hd
        have ho : o = dObj es.toList ep := by
          obtain ⟨c, d, dt, sl⟩ := o
          obtain ⟨b1, b2, b3⟩ := o2
          dsimp only at b1 b2 b3 o3
          subst b1 b2 b3 o3
          simp [dObj]
        rw [ho] at o1
        have hD : H h'.objs.size = none := I.hok.fresh big
        have hns : (h'.objs.size == sysModules) = false := big_ne I2.big
        have kd := zip_dist (ws := ws2) ndu
        have re : RpE F ρ H (zipK (us.map W.str) ws2) es.toList := txt_back (P := X.prog) (zip_kvT S2.rel rv2) (by rw [ok.w]; exact o5) (fun e he => by rw [ok.w]; exact o4 e (by simpa using he))
        refine ⟨.ref h'.objs.size, _, I.laid (t' := tk) (o := dicO h'.objs.size es.toList) kk big ⟨⟨ep, o1⟩, ⟨_, o1⟩, fun a1 a2 ⟨e', z⟩ k => ⟨e', k _ z⟩⟩, rfl, ?_⟩
        exact give_dic q (Ext.upd0 hD) hD (rs.upd0 hD) (rs.fresh hD) hns upd_same kd (RpE.mono (Ext.upd0 hD) _ _ re)
      · exact q.elim
    · exact q.elim
  · exact q.elim
end
abbrev fDz (fz : Bool) (f g : FE) : FE := fun σ M => (f σ M).bind fun x M1 => (g σ M1).bind fun y M2 => dzW fz x y M2
section
variable {F : Fx} {Wx : WX} {G : Gm} {C : Orc} {lv : Nat} {X : Cx} {p p2 pos pos2 : Pos} {e e2 : Expr} {f g : FE}
theorem p_dz (z : Cz F Wx G C lv X) (fz : Bool) (hm : X.mg "dict" = none) (hm2 : X.mg "zip" = none) (he : PE X e (tE F Wx f)) (he2 : PE X e2 (tE F Wx g)) (hg : Gl X "dict" := by rfl) (hg2 : Gl X "zip" := by rfl)
    (a1 : starEach [.Call (.Name "zip" p2) [e, e2] [] pos2] X.env = (false, eval (.Call (.Name "zip" p2) [e, e2] [] pos2) X.env) :: starEach [] X.env := by rfl) (b1 : (backTo pos (starEach [] X.env)).any (·.1) = false := by rfl)
    (a2 : starEach [e, e2] X.env = (false, eval e X.env) :: starEach [e2] X.env := by rfl) (a3 : starEach [e2] X.env = (false, eval e2 X.env) :: starEach [] X.env := by rfl) (b2 : (backTo pos2 (starEach [e2] X.env)).any (·.1) = false := by rfl) :
    PE X (.Call (.Name "dict" p) [.Call (.Name "zip" p2) [e, e2] [] pos2] [] pos) (tE F Wx (fDz fz f g)) := by
  have main : PE X (.Call (.Name "dict" p) [.Call (.Name "zip" p2) [e, e2] [] pos2] [] pos) (fun τ H Q => ∃ Q0 : VK, tE F Wx (fDz fz f g) τ H Q0 ∧ Q = lk Q0) := by
    refine ⟨fun pins s τ H Q I ⟨Q0, ⟨ρ, σ, M, rs, rg, q⟩, eQ⟩ => ?_⟩
    subst eQ
    have ha : PA X [e, e2] (tCons (tE F Wx f) (tCons (tE F Wx g) tNil)) := pa_cons he (pa_cons he2 pa_nil a3) a2
    refine wpAny_Call_Name_kw (ld_blt I hg hm (show bootBuiltins "dict" = some (.type "dict") from by kernel_rfl) ?_ (by decide) (by decide))
    refine PyProof.Rows.callWith_type1 (args_cons ?_ a1) a1 b1
    refine wpAny_Call_Name_kw (ld_blt I hg2 hm2 PyProof.Rows.boot_zip ?_ (by decide) (by decide))
    refine PyProof.Rows.callWith_type1 (thn (ha.run pos2 pins s τ H (fun vs H1 => ∃ v v2 ρ1 w w2 M1, vs = [v, v2] ∧ RelS F ρ1 H1 M1 ∧ Rp F ρ1 H1 w v ∧ Rp F ρ1 H1 w2 v2 ∧ oK F (Rp F) (fun c d H' => Wx c d τ H') Q0 ρ1 H1 (dzW fz w w2 M1)) I
      (tE_bind rs rg q fun ρ1 w M1 v H1 x1 rs1 rg1 r1 q1 => tE_bind rs1 rg1 q1 fun ρ2 w2 M2 v2 H2 x2 rs2 rg2 r2 q2 => ⟨v, v2, ρ2, w, w2, M2, rfl, rs2, Rp.mono x2 _ _ r1, r2, q2⟩)) fun us s1 ⟨vs, H1, I1, rv, v, v2, ρ1, w, w2, M1, ev, rs1, r1, r2, q1⟩ => ?_) a2 b2
    subst ev
    obtain ⟨u, u2, rfl, ru, ru2⟩ := vals2 rv
    exact thn (zip_dict z.ok z.calm fz I1 rs1 r1 r2 ru ru2 q1 z.rm.hd) fun v0 s2 h => args_nil h
  exact PE.weak (PE.lockV main) fun τ H Q q => ⟨Q, q, rfl⟩
end
end Mp
set_option Elab.async false
set_option linter.all false
set_option maxRecDepth 100000
set_option maxHeartbeats 4000000
namespace Mg
open PySem PySem.Spec PyProof.Rows L2 Mp
abbrev lamO (q : Str) (params : Arguments) (e : Expr) (sc : Scope) (cl : List (Str × Addr)) (pm : Value) (c : Addr) (ctv : Value) : Obj := PySem.W.kla_obj "<lambda>" q params e sc cl pm c ctv
section
variable {F : Fx} {X : Cx} {pins : List (Addr × Obj)} {τ : L2.St} {H : Hp} {s : Shared} {ρ : List Addr} {M : Store}
/-- a table grows by a code object of the name: what that is for the data -/
theorem tbl_ext {P c' : Addr} {ps : Array Value} {l1 l2 : Value} {ln cl : Int} (rs : RelS F ρ H M) (hP : H P = some (.tbl ps)) (ok : TriplesOk ps.toList) (hall : ∀ (pos : Pos) (cv : Value), codeAmong pos ps.toList = some cv → ∃ c, cv = .ref c ∧ H c = some (LamX.CodeO c lamQ)) (hc : H c' = none) (pos : Pos) :
    Ext ρ H ρ (upd (upd H P (.tbl (ps ++ #[rawInt pos.line, rawInt pos.col, .ref c']))) c' (LamX.CodeO c' lamQ)) ∧ RelS F ρ (upd (upd H P (.tbl (ps ++ #[rawInt pos.line, rawInt pos.col, .ref c']))) c' (LamX.CodeO c' lamQ)) M := by
  have nPc : P ≠ c' := ne_of_none hP hc
  have stay : ∀ b o, H b = some o → b ≠ P → upd (upd H P (.tbl (ps ++ #[rawInt pos.line, rawInt pos.col, .ref c']))) c' (LamX.CodeO c' lamQ) b = some o := fun b o e n => by
    rw [upd_ne (ne_of_none e hc), upd_ne n]; exact e
  have notP : ∀ b o, H b = some o → (∀ qs, o ≠ .tbl qs) → b ≠ P := fun b o e n z => by rw [z, hP] at e; exact n ps (Option.some.inj e).symm
  have nP : P ∉ ρ := fun z => by
    obtain ⟨l, hl, el⟩ := List.getElem_of_mem z
    have hM : l < M.length := by rw [← rs.len]; exact hl
    have ob := rs.ob l M[l] P (List.getElem?_eq_getElem hM) (by rw [← el]; exact List.getElem?_eq_getElem hl)
    cases q : M[l] with
    | lst ws => rw [q] at ob; obtain ⟨xs, e, _⟩ := ob; rw [hP] at e; cases e
    | dic es => rw [q] at ob; obtain ⟨ds, _, e, _⟩ := ob; rw [hP] at e; cases e
    | ins c es =>
      rw [q] at ob
      obtain ⟨C, dx, _, ob⟩ := ob
      cases q2 : F.sl c with
      | none => rw [q2] at ob; obtain ⟨fs, e, _⟩ := ob; rw [hP] at e; cases e
      | some ns =>
        rw [q2] at ob
        obtain ⟨vs, e, _⟩ := ob
        rcases e with ⟨e, _⟩ | ⟨e, _⟩ <;> (rw [hP] at e; cases e)
    | frz w => rw [q] at ob; obtain ⟨_, o, u, e⟩ := ob; rw [hP] at e; cases e
  have x : Ext ρ H ρ (upd (upd H P (.tbl (ps ++ #[rawInt pos.line, rawInt pos.col, .ref c']))) c' (LamX.CodeO c' lamQ)) := {
    pre := ⟨[], by simp⟩
    nw := fun b hb n => absurd hb n
    tup := fun b xs e => stay b _ e (notP b _ e fun _ z => nomatch z)
    frz := fun b o u e => stay b _ e (notP b _ e fun _ z => nomatch z)
    xd := fun b fs e => stay b _ e (notP b _ e fun _ z => nomatch z)
    tb := fun b q t => by
      cases q with
      | false => exact stay b _ t (notP b _ t fun qs => LamX.codeO_ne qs)
      | true =>
        by_cases hb : b = P
        · subst hb
          refine ⟨_, by rw [upd_ne nPc, upd_same], ?_, fun p' cv hcv => ?_⟩
          · rw [show (ps ++ #[rawInt pos.line, rawInt pos.col, Value.ref c']).toList = ps.toList ++ [rawInt pos.line, rawInt pos.col, .ref c'] by simp]
            exact PySem.TriplesOk_snoc _ _ _ _ ok
          · rw [show (ps ++ #[rawInt pos.line, rawInt pos.col, Value.ref c']).toList = ps.toList ++ [rawInt pos.line, rawInt pos.col, .ref c'] by simp] at hcv
            rcases LamX.among_app _ ok hcv with z | z
            · obtain ⟨c0, e1, e2⟩ := hall p' cv z
              exact ⟨c0, e1, stay c0 _ e2 (notP c0 _ e2 fun qs => LamX.codeO_ne qs)⟩
            · exact ⟨c', z, upd_same⟩
        · obtain ⟨qs, a1, a2, a3⟩ := t
          refine ⟨qs, stay b _ a1 hb, a2, fun p' cv hcv => ?_⟩
          obtain ⟨c0, e1, e2⟩ := a3 p' cv hcv
          exact ⟨c0, e1, stay c0 _ e2 (notP c0 _ e2 fun qs => LamX.codeO_ne qs)⟩
    tr := fun b e => by
      cases q : H b with
      | none => exact absurd q e
      | some o =>
        by_cases hb : b = P
        · rw [hb, upd_ne nPc, upd_same]; exact fun z => nomatch z
        · rw [stay b o q hb]; exact fun z => nomatch z
    fr := fun b o _ m e => stay b o e (notP b o e fun qs z => by rw [z] at m; exact m) }
  exact ⟨x, rs.keep x fun a u ha e => stay a u e fun z => nP (z ▸ ha)⟩
/-- lambda ..: .. -/
theorem lam_made {c P : Addr} {params : Arguments} {body : Expr} {scope : Scope} {pos : Pos} {E : Value → Shared → Prop} {Q : Value → Shared → Prop} (I : Inv X pins τ H s) (rs : RelS F ρ H M) (TB : LamX.TabB X.base X.mg c P) (hcode : X.env.code = .ref c) (hq : X.env.qual ++ "<lambda>" = lamQ) (hT : P ∈ F.T)
    (hdef : defaultsOf params X.env = ([], [])) (hfree : ∀ y ∈ scope.names, y.2 = .free → ∃ c, X.env.cells.lookup y.1 = some c)
    (fin : ∀ (f c' : Addr) (pm ctv : Value) (H1 : Hp) (s' : Shared), Inv X pins τ H1 s' → Ext ρ H ρ H1 → RelS F ρ H1 M → s'.heap.get? f = some (lamO lamQ params body scope (cloFrom X.env.cells scope.names []) pm c' ctv) → H1 f = none → s.heap.objs.size ≤ f → TQ H1 c' false →
      (∀ b o, H b = none → s.heap.get? b = some o → s'.heap.get? b = some o) → Q (.ref f) s') : wpAny (model X.prog X.w) X.A (eval (.Lambda params body scope pos) X.env) Q E s := by
  obtain ⟨ps, hP, ok, hall⟩ := rs.tab P hT
  refine PySem.W.kla_eval hdef ?_
  rw [hq]
  have bP : s.heap.BuiltinsAt X.mg P := TB.bm.keeps I.bk
  have oP : s.heap.get? P = some { cls := .none, data := .fields ps } := I.hok P _ hP
  have nP : ∀ b, H b = none → b ≠ P := fun b e z => by rw [z, hP] at e; cases e
  cases hc : codeAmong pos ps.toList with
  | some cv =>
    obtain ⟨c', ec, hco⟩ := hall pos cv hc
    subst ec
    refine PySem.W.kla_makeFunctionHit (mg := X.mg) (c := c) (P := P) (ps := ps) (closure_ok hfree) I.ok.glob (I.mod.glob.keeps I.bk) hcode (TB.code.keeps I.bk) oP ok hc bP fun ctv g tk k hs => ?_
    refine fin g.objs.size c' _ ctv H _ (I.kept fun b o e => Heap.get?_push_of_some _ (k b o e)) Ext.refl rs (Heap.get?_push_size _ rfl) (I.hok.fresh hs) hs hco fun b o _ e => Heap.get?_push_of_some _ (k b o e)
  | none =>
    refine PySem.W.kla_makeFunction (mg := X.mg) (c := c) (P := P) (ps := ps) (closure_ok hfree) I.ok.glob (I.mod.glob.keeps I.bk) hcode (TB.code.keeps I.bk) oP ok hc TB.gP bP fun c' ctv g tk k ge lt rec tb => ?_
    obtain ⟨c2, oc, vs, t, e2, hoc, hd, hv⟩ := rec
    cases e2
    have hs : s.heap.objs.size ≤ g.objs.size := Nat.le_trans ge (Nat.le_of_lt lt)
    have nC : H c' = none := I.hok.fresh ge
    obtain ⟨x, rs'⟩ := tbl_ext (l1 := .none) (l2 := .none) (ln := 0) (cl := 0) rs hP ok hall nC pos
    have J := LamX.inv_table (t' := tk) (more := #[rawInt pos.line, rawInt pos.col, .ref c']) (h' := g.push (lamO lamQ params body scope (cloFrom X.env.cells scope.names []) ((X.mg "__name__").getD .none) c' ctv)) I hP (fun b o hb e => Heap.get?_push_of_some _ (k b o hb e)) (Heap.get?_push_of_some _ tb) ge ⟨oc, vs, t, Heap.get?_push_of_some _ hoc, hd, hv⟩
    refine fin g.objs.size c' _ ctv _ _ J x rs' (Heap.get?_push_size _ rfl) ?_ hs (show _ = _ from upd_same) fun b o n e => Heap.get?_push_of_some _ (k b o (nP b n) e)
    have n1 : g.objs.size ≠ c' := Nat.ne_of_gt lt
    have n2 : g.objs.size ≠ P := Nat.ne_of_gt (Nat.lt_of_lt_of_le (Heap.lt_size oP) hs)
    rw [upd_ne n1, upd_ne n2]
    exact I.hok.fresh hs
end
end Mg
set_option Elab.async false
set_option linter.all false
set_option maxRecDepth 100000
set_option maxHeartbeats 4000000
namespace Mg
open PySem PySem.Spec PyProof.Rows L2 Mp
/-- the lambda's names -/
structure LamC (sc : Scope) (x1 x2 y : Str) : Prop where
  kind : sc.kind = .function
  co : sc.isCoroutine = false
  gen : sc.isGenerator = false
  l1 : sc.names.lookup x1 = some .local
  l2 : sc.names.lookup x2 = some .local
  l3 : sc.names.lookup y = some .free
  nc : ∀ z ∈ sc.names, z.2 ≠ .cell
  nf : ∀ z ∈ sc.names, z.2 = .free → z.1 = y
  ne : x1 ≠ x2
/-- the context of its body -/
def lR (P : Program) (w : World) (K : PySem.W.Frag) (mg : Str → Option Value) (base : Heap) (stk : List Env) (N : List Str) (sc : Scope) (f c : Addr) (cl : List (Str × Addr)) (A : Around) (s : Shared) (H : Hp) : Cx where
  prog := P
  w := w
  K := K
  mg := mg
  base := base
  A := A.deeper (PySem.W.envX lamQ sc s.heap.objs.size f (.ref c) cl)
  N := N
  s_0 := s
  H_0 := H
  env := PySem.W.envX lamQ sc s.heap.objs.size f (.ref c) cl
  outer := stk
  stack := PySem.W.envX lamQ sc s.heap.objs.size f (.ref c) cl :: stk
  ex := []
  fn := fun _ => false
  calm := true
  pn := []
  xe := fun _ _ => False
section
variable {P : Program} {w : World} {K : PySem.W.Frag} {mg : Str → Option Value} {base : Heap} {stk : List Env} {sc : Scope} {f c cy : Addr} {cl : List (Str × Addr)} {A : Around} {s : Shared} {H : Hp} {x1 x2 y : Str}
theorem lam_inv {v1 v2 v3 : V} {u1 u2 u3 : Value} {g : Heap} {tk : Nat} (L : LamC sc x1 x2 y) (c1 : cl.lookup y = some cy) (c2 : ∀ z d, cl.lookup z = some d → z = y ∧ d = cy) (hc : base.IsCell cy (some u3)) (e0 : Env0 P w K mg base A stk s H) (hd : A.handled = none) (r1 : RelV v1 u1) (r2 : RelV v2 u2) (r3 : RelV v3 u3)
    (hns : g.Ns s.heap.objs.size fun z => ([(x1, u1), (x2, u2)] : List (Str × Value)).reverse.lookup z) (kp : ∀ b o, s.heap.get? b = some o → g.get? b = some o) :
    Inv (lR P w K mg base stk [x1, x2, y] sc f c cl A s H) [] [some v1, some v2, some v3] H { s with heap := g, toks := tk } := by
  obtain ⟨oc, hoc, hdc⟩ := hc
  obtain ⟨b1, b2⟩ := e0.bs cy oc hoc
  have hcell : g.IsCell cy (some u3) := ⟨oc, kp _ _ b1, hdc⟩
  have noA : ∀ b : Addr, b ∉ (lR P w K mg base stk [x1, x2, y] sc f c cl A s H).ex := fun b z => absurd (show b ∈ ([] : List Addr) from z) (by simp)
  refine ⟨⟨e0.mod, L.kind, rfl, rfl, Nat.le_refl _, fun a b d e1 e2 => (c2 a d e1).1.trans (c2 b d e2).1.symm, fun z hz => ?_, fun z d q _ => ?_, fun _ => hd, Around.frames_deeper e0.frames, .inr ⟨rfl, rfl⟩, fun b z => absurd z (noA b), e0.bs, e0.bsz, fun b _ _ => noA b, fun b z => absurd z (noA b), e0.funs, e0.frf⟩,
    rfl, e0.bare, Un.kept kp, ⟨_, hns, fun i z v e1 e2 e3 => ?_⟩, fun z d e => ?_, e0.hok.fresh (Nat.le_refl _), fun z d e => ?_, fun q hq => absurd (show q ∈ ([] : List (Addr × Obj)) ++ [] from hq) (by simp), e0.hok.kept kp, rfl⟩
  · have hz : sc.names.lookup z = some .cell ∨ sc.names.lookup z = some .free := hz
    rcases hz with hz | hz
    · exact absurd rfl (L.nc _ (PySem.mem_of_lookup hz))
    · have : z = y := L.nf _ (PySem.mem_of_lookup hz) rfl
      rw [this]
      exact ⟨cy, c1⟩
  · cases (show false = true from q)
  · have e1 : [x1, x2, y][i]? = some z := e1
    match i, e1, e2 with
    | 0, e1, e2 =>
      cases e1; cases e2
      refine ⟨u1, r1, .inl ⟨L.l1, ?_⟩⟩
      show List.lookup x1 [(x2, u2), (x1, u1)] = _
      rw [List.lookup_cons, show (x1 == x2) = false from beq_false_of_ne L.ne]
      simp
    | 1, e1, e2 =>
      cases e1; cases e2
      refine ⟨u2, r2, .inl ⟨L.l2, ?_⟩⟩
      show List.lookup x2 [(x2, u2), (x1, u1)] = _
      simp
    | 2, e1, e2 =>
      cases e1; cases e2
      exact ⟨u3, r3, .inr ⟨.inr L.l3, cy, c1, hcell⟩⟩
    | n + 3, e1, e2 => simp at e1
  · obtain ⟨_, rfl⟩ := c2 z d e
    exact ⟨_, hcell⟩
  · obtain ⟨_, rfl⟩ := c2 z d e
    exact b2
end
/-- where a closure stands -/
def CloB (base : Heap) (params : Arguments) (body : Expr) (sc : Scope) (y : Str) (f c : Addr) (v : V) : Prop :=
  ∃ (cl : List (Str × Addr)) (pm ctv : Value) (cy : Addr) (u : Value), base.get? f = some (lamO lamQ params body sc cl pm c ctv) ∧ cl.lookup y = some cy ∧ (∀ z d, cl.lookup z = some d → z = y ∧ d = cy) ∧ RelV v u ∧ base.IsCell cy (some u)
abbrev fCallV (i : Nat) (r : FA) (fb : FE) : FE := fun σ M => match σ[i]? with
  | some (some (.clo _ [cap])) => (r σ M).bind fun ws M1 => (match ws with
    | [w1, w2] => calmO (fb [some w1, some w2, some cap] M1)
    | _ => .fail)
  | _ => .fail
section
variable {F : Fx} {Wx : WX} {G : Gm} {C : Orc} {lv : Nat} {X : Cx} {p pos : Pos} {e : Expr} {es : List Expr} {r : FA} {fb : FE} {x x1 x2 y : Str} {sc : Scope} {params : Arguments} {body : Expr}
theorem p_callV (z : Cz F Wx G C lv X) (i : Nat) (hclo : ∀ f n c vs, F.clo f n c vs → ∃ v, vs = [v] ∧ CloB X.base params body sc y f c v) (L : LamC sc x1 x2 y) (hlv : 1 ≤ lv)
    (hbind : ∀ (cl : List (Str × Addr)) (pm cv ctv u1 u2 : Value), bindArgs (PySem.W.kla_fn "<lambda>" lamQ params body sc cl pm cv ctv) ⟨[u1, u2], []⟩ = pure [(x1, u1), (x2, u2)])
    (hbody : ∀ (stk : List Env) (f c : Addr) (cl : List (Str × Addr)) (A : Around) (s : Shared) (H : Hp), Room (lv - 1) (A.deeper (PySem.W.envX lamQ sc s.heap.objs.size f (.ref c) cl)) → PE (lR X.prog X.w X.K X.mg X.base stk [x1, x2, y] sc f c cl A s H) body (tE F WN fb))
    (ha : PA X (e :: es) (tL F Wx r)) (hN : X.N[i]? = some x := by rfl) (hv : Vis X.env.scope x := by first | exact Or.inl rfl | exact Or.inr (Or.inl rfl) | exact Or.inr (Or.inr rfl)) (hd : (x == ("__debug__" : Str)) = false := by decide) (hcd : (x == ("__classdict__" : Str)) = false := by decide)
    (he : starEach (e :: es) X.env = (false, eval e X.env) :: starEach es X.env := by rfl) (hpl : (backTo pos (starEach es X.env)).any (·.1) = false := by rfl) :
    PE X (.Call (.Name x p) (e :: es) [] pos) (tE F Wx (fCallV i r fb)) := by
  refine ⟨fun pins s τ H Q I ⟨ρ, σ, M, rs, rg, q⟩ => ?_⟩
  unfold fCallV at q
  split at q
  rotate_left
  · exact q.elim
  rename_i nn cap eσ
  obtain ⟨v0, eτ, f, c, vs0, rfl, hF, hco, rcap⟩ := rg.at_ i _ eσ
  obtain ⟨vc, rfl, cl, pm, ctv, cy, uc, ho, hl1, hl2, rvc, hcell⟩ := hclo f nn c vs0 hF
  refine wpAny_Call_Name_kw (thn ((pe_var (pos := p) (i := i) hN hv hd hcd).run pins s τ H (fun v H1 => v = .ref f ∧ H1 = H) I ⟨.ref f, eτ, rfl, rfl⟩) fun u s1 ⟨v, H1, I1, r1, ev, eH⟩ => ?_)
  subst ev eH
  obtain rfl : u = Value.ref f := r1
  refine PySem.W.callWith_F ⟨_, _, _, _, I1.bk _ _ ho⟩ (thn (ha.run pos pins s1 τ H1 (fun vs H2 => ∃ ρ2 ws M2, Ext ρ H1 ρ2 H2 ∧ RelS F ρ2 H2 M2 ∧ Rps F ρ2 H2 ws vs ∧ oK F (Rp F) (fun c d H' => Wx c d τ H') Q ρ2 H2 (match ws with
    | [w1, w2] => calmO (fb [some w1, some w2, some cap] M2)
    | _ => .fail)) I1 (tL_bind rs rg q fun ρ2 ws M2 vs H2 x2 rs2 rg2 r2 q2 => ⟨ρ2, ws, M2, x2, rs2, r2, q2⟩)) fun us s2 ⟨vs, H2, I2, rv, ρ2, ws, M2, x2', rs2, r2, q2⟩ => ⟨⟨_, _, _, _, I2.bk _ _ ho⟩, ?_⟩) he hpl
  split at q2
  rotate_left
  · exact q2.elim
  rename_i w1 w2
  obtain ⟨v1, t1, rfl, ra, t2, rfl, q3⟩ : ∃ v1 t1, vs = v1 :: t1 ∧ Rp F ρ2 H2 w1 v1 ∧ ∃ t2, t1 = [t2] ∧ Rp F ρ2 H2 w2 t2 := by
    obtain ⟨v1, t1, e1, ra, rb⟩ := r2
    obtain ⟨t2, t3, e2, rb, rc⟩ := rb
    cases (show t3 = [] from rc)
    exact ⟨v1, t1, e1, ra, t2, e2, rb⟩
  obtain ⟨u1, u2, rfl, ru1, ru2⟩ := vals2 rv
  have hco2 : TQ H2 c false := x2'.tb c false hco
  obtain ⟨⟨oc, ovs, t, hoc, hdc, hvc⟩, _, _⟩ := I2.hok c _ hco2
  have e0 := I2.env0
  have hr := z.rm
  have rc : codeAny (model X.prog X.w) X.A (.call (.ref f) ⟨[u1, u2], []⟩) (fun r s' => match r with
      | .ok (.ret u) => EP X pins τ Q u s'
      | _ => False) s2 := by
    refine PySem.W.kla_callFunE hr.depth (I2.bk _ _ ho) rfl L.co L.gen rfl ⟨c, oc, ovs, t, rfl, hoc, hdc, hvc⟩ ?_
    rw [hbind]
    refine wpAny_pure (wpAny_newFunctionEnv (fun y hy => L.nc y hy) (fun y hy => ?_) (fun g hns hsb => ⟨I2.nolimit.fresh _ hsb, ?_⟩) L.kind)
    · rcases List.mem_cons.mp hy with z | z
      · rw [z]; exact L.l1
      · rw [List.mem_singleton.mp z]; exact L.l2
    have kp : ∀ b o, s2.heap.get? b = some o → g.get? b = some o := fun b o e => hsb.extBut b o (Nat.ne_of_lt (Heap.lt_size e)) (Heap.get?_push_of_some _ e)
    have J := lam_inv (f := f) (c := c) (tk := s2.toks + ([(x1, u1), (x2, u2)] : List (Str × Value)).length) L hl1 hl2 hcell e0 hr.hd ru1 ru2 rvc hns kp
    have hrl : Room (lv - 1) (X.A.deeper (PySem.W.envX lamQ sc s2.heap.objs.size f (.ref c) cl)) := Room.deeper (by rw [Nat.sub_add_cancel hlv]; exact hr) _
    refine PySem.W.kla_codeExpr (wpAny_mono ((hbody X.stack f c cl X.A s2 H2 hrl).run [] _ _ H2 Q J ⟨ρ2, [some w1, some w2, some cap], M2, rs2, ?_, ?_⟩) (fun v s' hq => ?_) fun e s' hq => False.elim hq)
    · refine ⟨rfl, fun j w e => ?_⟩
      match j, e with
      | 0, e => cases e; exact ⟨v1, rfl, ra.toA⟩
      | 1, e => cases e; exact ⟨t2, rfl, q3.toA⟩
      | 2, e =>
        cases e
        obtain ⟨vv, rr, er, rq, re⟩ := rcap
        cases er
        exact ⟨vc, rfl, (Rp.mono x2' _ _ rq).toA⟩
      | n + 3, e => simp at e
    · cases e : fb [some w1, some w2, some cap] M2 with
      | ok a M3 => rw [e] at q2; exact q2
      | exc c es M3 => rw [e] at q2; exact q2.elim
      | fail => rw [e] at q2; exact q2.elim
    · obtain ⟨v', H', J', rv', q'⟩ := hq
      exact ⟨v', H', Inv.call' (ch := []) I2 J'.os J'.base J'.hok J'.bare fun b z => by simp at z, rv', q'⟩
  refine wpAny_call (codeAny_mono rc fun r s' hq => ?_)
  cases r with
  | error e => exact hq.elim
  | ok fl => cases fl <;> first | exact hq | exact hq.elim
end
end Mg
set_option Elab.async false
set_option linter.all false
set_option maxRecDepth 100000
namespace Mg
open PySem PySem.Spec PyProof.Rows L2 Mp
section
variable {F : Fx} {k k' : Addr → Nat → Addr → List V → Prop} {ρ : List Addr} {H : Hp}
mutual
theorem Rp.reF : ∀ (w : W) (v : V), Rp { F with clo := k } ρ H w v → Rp { F with clo := k' } ρ H w v
  | .non, _, h => h
  | .bl _, _, h => h
  | .int _, _, h => h
  | .str _, _, h => h
  | .tup ws, v, h => by
    obtain ⟨p, xs, e, h1, h2⟩ := h
    exact ⟨p, xs, e, h1, Rps.reF ws xs h2⟩
  | .lst ws, v, h => by
    obtain ⟨p, xs, e, h1, h2⟩ := h
    exact ⟨p, xs, e, h1, Rps.reF ws xs h2⟩
  | .dic es, v, h => by
    obtain ⟨p, ds, e, h0, h1, h2, h3, h4⟩ := h
    exact ⟨p, ds, e, h0, h1, h2, h3, RpE.reF es ds h4⟩
  | .kv _ _, _, h => h
  | .ins c es, v, h => by
    obtain ⟨p, C, dx, o, e, h1, h⟩ := h
    rcases h with ⟨vs, ns, h2, h3, h4, h5⟩ | ⟨fs, h2, h3, h4⟩
    · exact ⟨p, C, dx, o, e, h1, .inl ⟨vs, ns, h2, h3, h4, RpS.reF ns es vs h5⟩⟩
    · exact ⟨p, C, dx, o, e, h1, .inr ⟨fs, h2, h3, RpF.reF es fs h4⟩⟩
  | .ref l, v, h => by
    obtain ⟨p, e, h⟩ := h
    exact ⟨p, e, h⟩
  | .clo _ _, _, h => h
theorem Rps.reF : ∀ (ws : List W) (vs : List V), Rps { F with clo := k } ρ H ws vs → Rps { F with clo := k' } ρ H ws vs
  | [], _, h => h
  | w :: ws, vs, h => by
    obtain ⟨v, r, e, h1, h2⟩ := h
    exact ⟨v, r, e, Rp.reF w v h1, Rps.reF ws r h2⟩
theorem RpE.reF : ∀ (es : List W) (ds : List DictEntry), RpE { F with clo := k } ρ H es ds → RpE { F with clo := k' } ρ H es ds
  | [], _, h => h
  | .kv k v :: es, ds, h => by
    obtain ⟨d, r, e, h0, ⟨x, hx, h1⟩, ⟨y, hy, h2⟩, h3⟩ := h
    exact ⟨d, r, e, h0, ⟨x, hx, Rp.reF k x h1⟩, ⟨y, hy, Rp.reF v y h2⟩, RpE.reF es r h3⟩
  | .non :: _, _, h => h
  | .bl _ :: _, _, h => h
  | .int _ :: _, _, h => h
  | .str _ :: _, _, h => h
  | .tup _ :: _, _, h => h
  | .lst _ :: _, _, h => h
  | .dic _ :: _, _, h => h
  | .ins _ _ :: _, _, h => h
  | .ref _ :: _, _, h => h
  | .clo _ _ :: _, _, h => h
theorem RpS.reF : ∀ (ns : List Str) (es : List W) (vs : List (Option V)), RpS { F with clo := k } ρ H ns es vs → RpS { F with clo := k' } ρ H ns es vs
  | _, [], _, h => h
  | ns, .kv (.str f) w :: es, vs, h => by
    obtain ⟨i0, v, e1, e2, h1, h2⟩ := h
    exact ⟨i0, v, e1, e2, Rp.reF w v h1, RpS.reF ns es (vs.set i0 none) h2⟩
  | _, .kv .non _ :: _, _, h => h
  | _, .kv (.bl _) _ :: _, _, h => h
  | _, .kv (.int _) _ :: _, _, h => h
  | _, .kv (.tup _) _ :: _, _, h => h
  | _, .kv (.lst _) _ :: _, _, h => h
  | _, .kv (.dic _) _ :: _, _, h => h
  | _, .kv (.kv _ _) _ :: _, _, h => h
  | _, .kv (.ins _ _) _ :: _, _, h => h
  | _, .kv (.ref _) _ :: _, _, h => h
  | _, .kv (.clo _ _) _ :: _, _, h => h
  | _, .non :: _, _, h => h
  | _, .bl _ :: _, _, h => h
  | _, .int _ :: _, _, h => h
  | _, .str _ :: _, _, h => h
  | _, .tup _ :: _, _, h => h
  | _, .lst _ :: _, _, h => h
  | _, .dic _ :: _, _, h => h
  | _, .ins _ _ :: _, _, h => h
  | _, .ref _ :: _, _, h => h
  | _, .clo _ _ :: _, _, h => h
theorem RpF.reF : ∀ (es : List W) (fs : List (Str × V)), RpF { F with clo := k } ρ H es fs → RpF { F with clo := k' } ρ H es fs
  | [], _, h => h
  | .kv (.str f) w :: es, fs, h => by
    obtain ⟨v, r, e, h1, h2⟩ := h
    exact ⟨v, r, e, Rp.reF w v h1, RpF.reF es r h2⟩
  | .kv .non _ :: _, _, h => h
  | .kv (.bl _) _ :: _, _, h => h
  | .kv (.int _) _ :: _, _, h => h
  | .kv (.tup _) _ :: _, _, h => h
  | .kv (.lst _) _ :: _, _, h => h
  | .kv (.dic _) _ :: _, _, h => h
  | .kv (.kv _ _) _ :: _, _, h => h
  | .kv (.ins _ _) _ :: _, _, h => h
  | .kv (.ref _) _ :: _, _, h => h
  | .kv (.clo _ _) _ :: _, _, h => h
  | .non :: _, _, h => h
  | .bl _ :: _, _, h => h
  | .int _ :: _, _, h => h
  | .str _ :: _, _, h => h
  | .tup _ :: _, _, h => h
  | .lst _ :: _, _, h => h
  | .dic _ :: _, _, h => h
  | .ins _ _ :: _, _, h => h
  | .ref _ :: _, _, h => h
  | .clo _ _ :: _, _, h => h
end
theorem ObR.reF {a : Addr} {o : MObj} (h : ObR { F with clo := k } ρ H a o) : ObR { F with clo := k' } ρ H a o := by
  cases o with
  | lst ws => obtain ⟨xs, h1, h2⟩ := h; exact ⟨xs, h1, Rps.reF ws xs h2⟩
  | dic es => obtain ⟨ds, h0, h1, h2, h3, h4⟩ := h; exact ⟨ds, h0, h1, h2, h3, RpE.reF es ds h4⟩
  | ins c es =>
    obtain ⟨C, dx, h0, h⟩ := h
    refine ⟨C, dx, h0, ?_⟩
    dsimp only at h ⊢
    cases q : F.sl c with
    | none => rw [q] at h; obtain ⟨fs, h1, h2⟩ := h; exact ⟨fs, h1, RpF.reF es fs h2⟩
    | some ns => rw [q] at h; obtain ⟨vs, h1, h2, h3⟩ := h; exact ⟨vs, h1, RpS.reF ns es vs h2, h3⟩
  | frz w => obtain ⟨h1, h2⟩ := h; exact ⟨Rp.reF w _ h1, h2⟩
theorem RelS.reF {M : Store} (h : RelS { F with clo := k } ρ H M) : RelS { F with clo := k' } ρ H M := ⟨h.len, h.nd, fun l o a h1 h2 => ObR.reF (h.ob l o a h1 h2), h.tab⟩
end
end Mg
set_option Elab.async false
set_option linter.all false
set_option maxRecDepth 100000
set_option maxHeartbeats 4000000
namespace Mg
open PySem PySem.Spec PyProof.Rows L2 Mp
/-! ### a base with two objects more -/
open Classical in
/-- of h only what k tells -/
noncomputable def cutH (h : Heap) (k : Addr → Prop) : Heap := { h with objs := h.objs.mapIdx fun i o => if k i then o else ⟨.none, none, .freed, #[]⟩ }
theorem cutH_get {h : Heap} {k : Addr → Prop} {a : Addr} {o : Obj} : (cutH h k).get? a = some o ↔ k a ∧ h.get? a = some o := by
  classical
  unfold cutH Heap.get?
  dsimp only
  rw [Array.getElem?_mapIdx]
  cases e : h.objs[a]? with
  | none => simp
  | some x =>
    by_cases q : k a
    · rw [Option.map_some, if_pos q]
      simp [q]
    · rw [Option.map_some, if_neg q]
      simp [q]
theorem cutH_size {h : Heap} {k : Addr → Prop} : (cutH h k).objs.size = h.objs.size := by
  unfold cutH
  simp
theorem Mod.up {K : PySem.W.Frag} {mg : Str → Option Value} {b b' : Heap} (m : Mod K mg b) (k : ∀ c o, b.get? c = some o → b'.get? c = some o) : Mod K mg b' :=
  ⟨m.kin.keeps k, m.glob.keeps k, let ⟨mb, h1, h2⟩ := m.blt; ⟨mb, h1.keeps k, h2⟩, m.nolimit.keeps k⟩
theorem frames_up {h b b' : Heap} : ∀ {l : List Env}, h.FunFrames b l → (∀ f ∈ frs l, b'.get? f = none) → h.FunFrames b' l
  | [], _, _ => True.intro
  | e :: l, ⟨h1, ⟨L, o, h2, h3, h4, h5⟩, h6⟩, hk => by
    have e1 : frs (e :: l) = L :: frs l := by
      show (e :: l).filterMap (·.frame) = _
      rw [List.filterMap_cons, h2]; rfl
    rw [e1] at hk
    exact ⟨h1, ⟨L, o, h2, hk L List.mem_cons_self, h4, h5⟩, frames_up h6 fun f hf => hk f (List.mem_cons_of_mem _ hf)⟩
/-- the context of a def's body, the base another one; nothing is raised -/
abbrev pR (P : Program) (w : World) (K : PySem.W.Frag) (mg : Str → Option Value) (base : Heap) (stk : List Env) (N : List Str) (qual : Str) (sc : Scope) (g : Addr) (cd : Value) (A : Around) (s : Shared) (H : Hp) : Cx :=
  (cxOf C8.CX0 P w K mg base N qual sc g cd A stk s H C8.E0).nox
def lamS (fg : FS) (n : Nat) (w1 w2 cap : W) (M : Store) : Out W := match inl cap with
  | true => (match fg ([some w1, some w2, some (.clo 0 [cap])] ++ List.replicate (n - 3) none) M with
    | .next _ M3 => .ok .non M3
    | .ret w M3 => .ok w M3
    | _ => .fail)
  | false => .fail
abbrev fLam (f1 f2 : FE) (j : Nat) (n : Nat) (fg : FS) : FE := fun σ M => (f1 σ M).bind fun w1 M1 => (f2 σ M1).bind fun w2 M2 => match σ[j]? with
  | some (some cap) => lamS fg n w1 w2 cap M2
  | _ => .fail
theorem inl_noclo {w : W} (h : inl w = true) : ∀ n ws, w ≠ .clo n ws := fun n ws e => by rw [e] at h; cases h
section
variable {F : Fx} {Wx : WX} {G : Gm} {C : Orc} {lv : Nat} {X : Cx} {gp lpos pos : Pos} {e1 e2 : Expr} {f1 f2 : FE} {x x1 x2 y qg : Str} {sc sg : Scope} {params pg : Arguments} {body : Expr} {bg : List Stmt} {g c P : Addr} {Ng psg : List Str} {fg : FS}
  {dV kV doc pm cdv ct oc : Value} {an od : Option Addr} {osl : Array (Option Value)} {name : Str}
theorem p_lam (z : Cz F Wx G C lv X) (j : Nat) (hlv : 1 ≤ lv) (hm : X.mg x = some (.ref g)) (hk : PySem.W.keepIn X.K (.ref g) = true) (lk : X.K.lookup g = some ⟨oc, od, .func (PySem.W.fnOf name qg pg bg sg dV kV doc pm an cdv ct), osl⟩) (hcg : PySem.W.codeIn X.K cdv qg = true)
    (hb : L2.Binds X.K (PySem.W.fnOf name qg pg bg sg dV kV doc pm an cdv ct) psg []) (Sg : FnScope Ng psg sg) (h3 : psg.length = 3) (L : LamC sc x1 x2 y) (TB : LamX.TabB X.base X.mg c P) (hcode : X.env.code = .ref c) (hq : X.env.qual ++ "<lambda>" = lamQ) (hT : P ∈ F.T) (hdef : defaultsOf params X.env = ([], []))
    (hyN : X.N[j]? = some y) (hyc : X.env.scope.names.lookup y = some .cell) (hfn : X.fn y = true)
    (hG : ∀ (base : Heap) (clo : Addr → Nat → Addr → List V → Prop), (∀ f n c vs, clo f n c vs → ∃ v, vs = [v] ∧ CloB base params body sc y f c v) → ∀ (stk : List Env) (A : Around) (s : Shared) (H : Hp), Room (lv - 1) (A.deeper (envOfC qg sg s.heap.objs.size g cdv)) →
      PSs (pR X.prog X.w X.K X.mg base stk Ng qg sg g cdv A s H) bg (tS { F with clo := clo } WN fg))
    (h1 : PE X e1 (tE F Wx f1)) (h2 : PE X e2 (tE F Wx f2)) (hg : Gl X x := by rfl) (hdb : (x == ("__debug__" : Str)) = false := by decide)
    (he : starEach [e1, e2, .Lambda params body sc lpos] X.env = [(false, eval e1 X.env), (false, eval e2 X.env), (false, eval (.Lambda params body sc lpos) X.env)] := by rfl)
    (he' : starEach [e1, e2, .Lambda params body sc lpos] X.env = (false, eval e1 X.env) :: starEach [e2, .Lambda params body sc lpos] X.env := by rfl)
    (hpl : (backTo pos (starEach [e2, .Lambda params body sc lpos] X.env)).any (·.1) = false := by rfl) :
    PE X (.Call (.Name x gp) [e1, e2, .Lambda params body sc lpos] [] pos) (tE F Wx (fLam f1 f2 j Ng.length fg)) := by
  refine ⟨fun pins s τ H Q I ⟨ρ, σ, M, rs, rg, q⟩ => ?_⟩
  refine wpAny_Call_Name_kw (ld_glob I hg hm ?_ hdb)
  refine PySem.W.callWith_K (h₀ := X.base) I.ok.mod.kin hk ?_ he' hpl
  rw [he]
  refine Calls.spliced_cons (thn (h1.run pins s τ H (fun v1 H1 => ∃ ρ1 w1 M1, RelS F ρ1 H1 M1 ∧ RelG F ρ1 H1 σ τ ∧ Rp F ρ1 H1 w1 v1 ∧ oK F (Rp F) (fun c d H' => Wx c d τ H') Q ρ1 H1 ((f2 σ M1).bind fun w2 M2 => match σ[j]? with
    | some (some cap) => lamS fg Ng.length w1 w2 cap M2
    | _ => .fail)) I (tE_bind rs rg q fun ρ1 w M1 v H1 x1 rs1 rg1 r1 q1 => ⟨ρ1, w, M1, rs1, rg1, r1, q1⟩)) fun u1 s1 ⟨v1, H1, I1, ru1, ρ1, w1, M1, rs1, rg1, r1, q1⟩ => ?_)
  refine Calls.spliced_cons (thn (h2.run pins s1 τ H1 (fun v2 H2 => ∃ ρ2 w2 M2, Ext ρ1 H1 ρ2 H2 ∧ RelS F ρ2 H2 M2 ∧ RelG F ρ2 H2 σ τ ∧ Rp F ρ2 H2 w2 v2 ∧ oK F (Rp F) (fun c d H' => Wx c d τ H') Q ρ2 H2 (match σ[j]? with
    | some (some cap) => lamS fg Ng.length w1 w2 cap M2
    | _ => .fail)) I1 (tE_bind rs1 rg1 q1 fun ρ2 w M2 v H2 x2 rs2 rg2 r2 q2 => ⟨ρ2, w, M2, x2, rs2, rg2, r2, q2⟩)) fun u2 s2 ⟨v2, H2, I2, ru2, ρ2, w2, M2, xx2, rs2, rg2, r2, q2⟩ => ?_)
  split at q2
  rotate_left
  · exact q2.elim
  rename_i cap eσ
  unfold lamS at q2
  split at q2
  rotate_left
  · exact q2.elim
  rename_i hinl
  obtain ⟨vc, eτ, rcap⟩ := rg2.at_ j cap eσ
  have rcap : Rp F ρ2 H2 cap vc := rcap.toR (inl_noclo hinl)
  -- the captured name's cell
  obtain ⟨cy, hcy⟩ := I2.ok.has y (.inl hyc)
  have hfree : ∀ z ∈ sc.names, z.2 = .free → ∃ c, X.env.cells.lookup z.1 = some c := fun z hz e => by rw [L.nf z hz e]; exact ⟨cy, hcy⟩
  obtain ⟨m, _, hlook⟩ := I2.loc
  obtain ⟨uc, ruc, hlk⟩ := hlook j y vc hyN eτ (.inr (.inl hyc))
  have hcell2 : s2.heap.IsCell cy (some uc) := by
    rcases hlk with ⟨k1, _⟩ | ⟨_, c3, e3, k3⟩
    · have k1 : X.env.scope.names.lookup y = some .local := k1
      rw [hyc] at k1; cases k1
    · rw [hcy] at e3; cases e3; exact k3
  have hcyn : H2 cy = none := I2.freeC y cy hcy
  obtain ⟨ocy, hocy, hdcy⟩ := hcell2
  refine Calls.spliced_cons (lam_made I2 rs2 TB hcode hq hT hdef hfree fun f c' pm' ctv H3 s3 I3 x3 rs3 hf hfn3 hfs hco kp => ?_)
  refine Calls.spliced_nil ⟨I3.kIn, ?_⟩
  have hocy3 : s3.heap.get? cy = some ocy := kp cy ocy hcyn hocy
  have hcyn3 : H3 cy = none := I3.freeC y cy hcy
  -- the greater base
  have cm : ∀ {z d}, (cloFrom X.env.cells sc.names []).lookup z = some d → z = y ∧ d = cy := fun {z d} e => by
    rcases cloFrom_mem (PySem.mem_of_lookup e) with hm | ⟨a1, a2⟩
    · cases hm
    · have ez : z = y := L.nf _ a1 rfl
      subst ez
      refine ⟨rfl, ?_⟩
      rw [a2, hcy] <;> rfl
  obtain ⟨d0, hd0⟩ := mem_lookup (cloFrom_has (cells := X.env.cells) (acc := []) (PySem.mem_of_lookup L.l3))
  obtain ⟨_, rfl⟩ := cm hd0
  have bsub : ∀ b o, X.base.get? b = some o → (cutH s3.heap fun b => X.base.get? b ≠ none ∨ b = f ∨ b = d0).get? b = some o := fun b o e => cutH_get.mpr ⟨.inl (by rw [e]; exact fun z => nomatch z), I3.bk b o e⟩
  have e0 := I3.env0
  have frF : f ∉ frs X.stack := fun hz => by
    rcases List.mem_cons.mp (I2.stkSub _ hz) with z | z
    · have := I2.lt
      rw [← z] at this
      exact Nat.lt_irrefl _ (Nat.lt_of_lt_of_le this hfs)
    · exact I2.nofs hfs z
  have frC : d0 ∉ frs X.stack := fun hz => by
    rcases List.mem_cons.mp (I2.stkSub _ hz) with z | z
    · obtain ⟨m2, ⟨ob, es, ep, ho, hc2, hd2, _⟩, _⟩ := I2.loc
      rw [← z, hocy] at ho
      cases ho
      simp_all
    · obtain ⟨hb1, ob, ho, _⟩ := I2.ok.funs.mem z
      have := I2.ok.cab y d0 hfn hcy
      exact Nat.lt_irrefl _ (Nat.lt_of_lt_of_le (Heap.lt_size ho) this)
  have e0' : Env0 X.prog X.w X.K X.mg (cutH s3.heap fun b => X.base.get? b ≠ none ∨ b = f ∨ b = d0) X.A X.stack s3 H3 := by
    refine ⟨e0.frames, Mod.up e0.mod bsub, fun b o e => ?_, by rw [cutH_size]; exact Nat.le_refl _, frames_up e0.funs fun fr hfr => ?_, e0.frf, e0.hok, e0.bare⟩
    · obtain ⟨k1, k2⟩ := cutH_get.mp e
      refine ⟨k2, ?_⟩
      rcases k1 with k1 | rfl | rfl
      · cases e5 : X.base.get? b with
        | none => exact absurd e5 k1
        | some o5 => exact (I3.bs b o5 e5).2
      · exact hfn3
      · exact hcyn3
    · cases e5 : (cutH s3.heap fun b => X.base.get? b ≠ none ∨ b = f ∨ b = d0).get? fr with
      | none => rfl
      | some o5 =>
        obtain ⟨k1, _⟩ := cutH_get.mp e5
        rcases k1 with k1 | rfl | rfl
        · exact absurd (e0.funs.mem hfr).1 k1
        · exact absurd hfr frF
        · exact absurd hfr frC
  have r2' : Rp F ρ2 H3 w2 v2 := Rp.mono x3 _ _ r2
  have r1' : Rp F ρ2 H3 w1 v1 := Rp.mono x3 _ _ (Rp.mono xx2 _ _ r1)
  have rc' : Rp F ρ2 H3 cap vc := Rp.mono x3 _ _ rcap
  have hr : Room (lv - 1 + 1) X.A := by rw [Nat.sub_add_cancel hlv]; exact z.rm
  have run : codeAny (model X.prog X.w) X.A (.call (.ref g) ⟨[u1, u2, .ref f], []⟩) (CR C8.CX0 X.stack X.prog X.w H3 s3 Q C8.E0) s3 := by
    refine LamX.run_ofS (N := Ng) (ps := psg) (us := [u1, u2, .ref f]) (vs := [v1, v2, .ref f]) lk hcg Sg hr e0' (hb s3 [u1, u2, .ref f] I3.kIn (by rw [h3]; rfl)) (.cons ru1 (.cons ru2 (.cons (show RelV (V.ref f) (Value.ref f) from rfl) .nil))) (by rw [h3]; rfl) fun hr' => ?_
    refine ⟨_, PSs.nox (hG _ (fun f' n c vs => f' = f ∧ c = c' ∧ vs = [vc]) ?_ X.stack X.A s3 H3 hr'), ρ2, [some w1, some w2, some (.clo 0 [cap])] ++ List.replicate (Ng.length - 3) none, M2, RelS.reF (k := F.clo) rs3, ⟨?_, ?_⟩, ?_⟩
    · rintro f' n c vs ⟨rfl, rfl, rfl⟩
      exact ⟨vc, rfl, cloFrom X.env.cells sc.names [], pm', ctv, d0, uc, cutH_get.mpr ⟨.inr (.inl rfl), hf⟩, hd0, fun z d e => cm e, ruc, ocy, cutH_get.mpr ⟨.inr (.inr rfl), hocy3⟩, hdcy⟩
    · unfold L2.start
      simp
    · intro i w e
      unfold L2.start
      match i, e with
      | 0, e => cases e; exact ⟨v1, rfl, (Rp.reF (k := F.clo) _ _ r1').toA⟩
      | 1, e => cases e; exact ⟨v2, rfl, (Rp.reF (k := F.clo) _ _ r2').toA⟩
      | 2, e =>
        cases e
        exact ⟨.ref f, rfl, f, c', [vc], rfl, ⟨rfl, rfl, rfl⟩, hco, vc, [], rfl, Rp.reF (k := F.clo) _ _ rc', rfl⟩
      | i + 3, e =>
        have e : (List.replicate (Ng.length - 3) (none : Option W))[i]? = some (some w) := by simpa using e
        rw [List.getElem?_replicate] at e
        split at e <;> cases e
    · have q3 := oK.mono q2 x3
      revert q3
      cases e : fg ([some w1, some w2, some (.clo 0 [cap])] ++ List.replicate (Ng.length - 3) none) M2 with
      | next σ1 M3 => exact fun q3 => fun ρ' H' τ' x s _ => q3 ρ' .non H' x (RelS.reF (k' := F.clo) s) rfl
      | ret w M3 => exact fun q3 => fun ρ' H' v x s r => q3 ρ' v H' x (RelS.reF (k' := F.clo) s) (Rp.reF (k' := F.clo) _ _ r)
      | exc c es σ1 M3 => exact fun q3 => q3.elim
      | fail => exact fun q3 => q3.elim
  refine wpAny_call (codeAny_mono run fun r s4 hq4 => ?_)
  cases r with
  | error e => exact (show False from hq4).elim
  | ok fl =>
    cases fl with
    | ret u => exact I3.after hq4
    | next => exact False.elim hq4
    | brk => exact False.elim hq4
    | cont => exact False.elim hq4
end
end Mg
set_option Elab.async false
set_option linter.all false
set_option maxRecDepth 100000
set_option maxHeartbeats 2000000
namespace Mp
open PySem PySem.Spec PyProof.Rows L2
/-- a module's value that stays -/
def GVal (F : Fx) (mg : Str → Option Value) (x : Str) (w : W) : Prop := ∃ u v, mg x = some u ∧ RelV v u ∧ ∀ ρ H, Rp F ρ H w v
/-- a class, by its name -/
def MakeN (F : Fx) (P : Program) (w : World) (K : PySem.W.Frag) (mg : Str → Option Value) (base : Heap) (u : List W → Store → Out W) (G : Gm) (c n np : Nat) (x : Str) : Prop := ∃ D g, mg x = some (.ref D) ∧ F.cA c = some D ∧ Mk K D g ∧ Cal F P w K mg base u n g (np + 1) ∧ ∃ i, G.cls c = some i ∧ i.init = n
def MethN (F : Fx) (P : Program) (w : World) (K : PySem.W.Frag) (mg : Str → Option Value) (base : Heap) (u : List W → Store → Out W) (G : Gm) (c : Nat) (m : Str) (n np : Nat) : Prop := (∃ D, F.cA c = some D ∧ PySem.W.plainGet K D Str.empty = true ∧ ∃ g, Meth K D m g ∧ Cal F P w K mg base u n g np) ∧ ∃ i, G.cls c = some i ∧ lookS m i.meths = some n
def PropN (F : Fx) (P : Program) (w : World) (K : PySem.W.Frag) (mg : Str → Option Value) (base : Heap) (C : Orc) (c : Nat) (f : Str) (n : Nat) : Prop := ∃ D, F.cA c = some D ∧ PySem.W.plainGet K D Str.empty = true ∧ PySem.W.isClsIn K D = true ∧ ∃ p g, PropOf K D f p g ∧ Cal F P w K mg base (C n) n g 1
/-- a module's def, by its name -/
def CalN (F : Fx) (P : Program) (w : World) (K : PySem.W.Frag) (mg : Str → Option Value) (base : Heap) (u : List W → Store → Out W) (n np : Nat) (x : Str) : Prop := ∃ g, mg x = some (.ref g) ∧ Cal F P w K mg base u n g np
def uDef (np N : Nat) (fb : FS) : List W → Store → Out W := fun ws M => match decide (ws.length = np) with
  | true => calmO (stepO fb N ws M)
  | false => .fail
theorem uDef_ar {np N : Nat} {fb : FS} (ws : List W) (M : Store) (h : ws.length ≠ np) : uDef np N fb ws M = .fail := by
  unfold uDef
  rw [decide_eq_false h]
section
variable {F : Fx} {Wx : WX} {G : Gm} {C : Orc} {lv : Nat} {X : Cx} {p p2 pos apos : Pos} {e o : Expr} {es : List Expr} {f : FE} {r : FA} {x : Str}
theorem p_glo {w : W} (h : GVal F X.mg x w) (hg : Gl X x := by rfl) (hdb : (x == ("__debug__" : Str)) = false := by decide) : PE X (.Name x pos) (tE F Wx (fCon w)) := by
  obtain ⟨u, v, hm, rv, rp⟩ := h
  exact e_con (pe_glob hg hm rv hdb) rp
theorem p_callN (z : Cz F Wx G C lv X) {u : List W → Store → Out W} {n np : Nat} (d : CalN F X.prog X.w X.K X.mg X.base u n np x) (ha : PA X (e :: es) (tL F Wx r)) (hn : n + 1 ≤ lv := by decide) (hg : Gl X x := by rfl) (hdb : (x == ("__debug__" : Str)) = false := by decide)
    (he : starEach (e :: es) X.env = (false, eval e X.env) :: starEach es X.env := by rfl) (hpl : (backTo pos (starEach es X.env)).any (·.1) = false := by rfl) : PE X (.Call (.Name x p) (e :: es) [] pos) (tE F Wx (fCall false n u r)) := by
  obtain ⟨k, hm, d⟩ := d
  exact p_call z false d hm ha hn hg hdb he hpl
theorem p_makeN (z : Cz F Wx G C lv X) {u : List W → Store → Out W} {c n np : Nat} (d : MakeN F X.prog X.w X.K X.mg X.base u G c n np x) (ha : PA X (e :: es) (tL F Wx r)) (hn : n + 2 ≤ lv := by decide) (hg : Gl X x := by rfl) (hdb : (x == ("__debug__" : Str)) = false := by decide)
    (he : starEach (e :: es) X.env = (false, eval e X.env) :: starEach es X.env := by rfl) (hpl : (backTo pos (starEach es X.env)).any (·.1) = false := by rfl) : PE X (.Call (.Name x p) (e :: es) [] pos) (tE F Wx (fMake G u c r)) := by
  obtain ⟨D, g, hm, h1, h2, h3, h4⟩ := d
  exact p_make z ⟨h1, ⟨g, h2, h3.at⟩, h4⟩ hm ha hn hg hdb he hpl
theorem p_methN (z : Cz F Wx G C lv X) {u : List W → Store → Out W} {c n np : Nat} {m : Str} (d : MethN F X.prog X.w X.K X.mg X.base u G c m n np) (ho : PE X o (tE F Wx f)) (ha : PA X (e :: es) (tL F Wx r)) (hn : n + 1 ≤ lv := by decide) (hbase : attributeBase o m X.env (eval o X.env) = eval o X.env := by rfl)
    (hfew : ((backTo pos (starEach (e :: es) X.env)).all (fun x => !x.1) && (backToKw pos (keywordEach [] X.env)).all (fun x => x.1.isSome) && decide ((e :: es).length + ([] : List Keyword).length + (if ([] : List Keyword).isEmpty then 0 else 1) < 30)) = true := by rfl) (hline : (apos.endLine == pos.line) = true := by rfl)
    (he : starEach (e :: es) X.env = (false, eval e X.env) :: starEach es X.env := by rfl) (hpl : (backTo pos (starEach es X.env)).any (·.1) = false := by rfl) : PE X (.Call (.Attribute o m apos) (e :: es) [] pos) (tE F Wx (fMeth G u false c m f r)) := by
  obtain ⟨⟨D, h1, h2, g, h3, h4⟩, h5⟩ := d
  exact p_meth z false ⟨⟨D, h1, h2, g, h3, h4.at⟩, h5⟩ ho ha hn hbase hfew hline he hpl
theorem p_meth0N (z : Cz F Wx G C lv X) {u : List W → Store → Out W} {c n np : Nat} {m : Str} (d : MethN F X.prog X.w X.K X.mg X.base u G c m n np) (ho : PE X o (tE F Wx f)) (hn : n + 1 ≤ lv := by decide) (hbase : attributeBase o m X.env (eval o X.env) = eval o X.env := by rfl) (hline : (apos.endLine == pos.line) = true := by rfl) :
    PE X (.Call (.Attribute o m apos) [] [] pos) (tE F Wx (fMeth0 G u false c m f)) := by
  obtain ⟨⟨D, h1, h2, g, h3, h4⟩, h5⟩ := d
  exact p_meth0 z false ⟨⟨D, h1, h2, g, h3, h4.at⟩, h5⟩ ho hn hbase hline
theorem p_propN (z : Cz F Wx G C lv X) (hP : ∀ c i n, G.cls c = some i → lookS x i.props = some n → PropN F X.prog X.w X.K X.mg X.base C c x n ∧ n + 2 ≤ lv) (ha : PE X o (tE F Wx f)) (hb : attributeBase o x X.env (eval o X.env) = eval o X.env := by rfl) : PE X (.Attribute o x pos) (tE F Wx (fAttr G C false x f)) :=
  p_prop z false (fun c i n e1 e2 => by
    obtain ⟨⟨D, h1, h2, h3, p, g, h4, h5⟩, h6⟩ := hP c i n e1 e2
    obtain ⟨fd, ps, k1, k2, k3⟩ := h5.ok
    exact ⟨⟨D, h1, h2, h3, p, g, h4, ⟨fd, ps, k1, k2, k3⟩, h5.kp, h5.ar⟩, h6⟩) ha hb
theorem g1_calm {k : W → Store → Out W} (h : ∀ w M, Calm (k w M)) : ∀ ws M, Calm (g1 k ws M) := fun ws M => by
  unfold g1
  split
  · exact h _ _
  · exact fun _ _ _ z => nomatch z
theorem g2_calm {k : W → W → Store → Out W} (h : ∀ a b M, Calm (k a b M)) : ∀ ws M, Calm (g2 k ws M) := fun ws M => by
  unfold g2
  split
  · exact h _ _ _
  · exact fun _ _ _ z => nomatch z
/-! ### built-ins -/
theorem gLen_calm (ws : List W) (M : Store) : Calm (gLen ws M) := by
  intro c es M' z
  unfold gLen at z
  repeat' split at z
  all_goals cases z
theorem allW_calm (w : W) (M : Store) : Calm (allW w M) := by
  intro c es M' z
  unfold allW blO at z
  repeat' split at z
  all_goals cases z
theorem intW_calm (w : W) (M : Store) : Calm (intW w M) := by
  intro c es M' z
  unfold intW at z
  repeat' split at z
  all_goals cases z
theorem tupleW_calm (w : W) (M : Store) : Calm (tupleW w M) := by
  intro c es M' z
  unfold tupleW mkT at z
  repeat' split at z
  all_goals cases z
theorem listW_calm {fz : Bool} (w : W) (M : Store) : Calm (listW fz w M) := by
  intro c es M' z
  unfold listW mkL at z
  repeat' split at z
  all_goals cases z
theorem sortedTW_calm {fz : Bool} (w : W) (M : Store) : Calm (sortedTW fz w M) := by
  intro c es M' z
  unfold sortedTW mkL at z
  repeat' split at z
  all_goals cases z
theorem dictTW_calm {fz : Bool} (w : W) (M : Store) : Calm (dictTW fz w M) := by
  intro c es M' z
  unfold dictTW mkD at z
  repeat' split at z
  all_goals cases z
theorem maxW_calm (a b : W) (M : Store) : Calm (maxW a b M) := by
  intro c es M' z
  unfold maxW at z
  repeat' split at z
  all_goals cases z
theorem b_len (z : Cz F Wx G C lv X) (hm : X.mg "len" = none) (ha : PE X e (tE F Wx f)) (hg : Gl X "len" := by rfl) (he : starEach [e] X.env = (false, eval e X.env) :: starEach [] X.env := by rfl) (hpl : (backTo pos (starEach [] X.env)).any (·.1) = false := by rfl) :
    PE X (.Call (.Name "len" p) [e] [] pos) (tE F Wx (fApp (fOne f fNil) gLen)) := p_bi z (bi_len z.ok.k) gLen_calm hm boot_len (p_arg ha p_nil he) hg (by decide) (by decide) he hpl
theorem b_all (z : Cz F Wx G C lv X) (hm : X.mg "all" = none) (ha : PE X e (tE F Wx f)) (hg : Gl X "all" := by rfl) (he : starEach [e] X.env = (false, eval e X.env) :: starEach [] X.env := by rfl) (hpl : (backTo pos (starEach [] X.env)).any (·.1) = false := by rfl) :
    PE X (.Call (.Name "all" p) [e] [] pos) (tE F Wx (fApp (fOne f fNil) (g1 allW))) := p_bi z (bi_all z.calm) (g1_calm allW_calm) hm PyProof.Rows.boot_all (p_arg ha p_nil he) hg (by decide) (by decide) he hpl
theorem b_int (z : Cz F Wx G C lv X) (hm : X.mg "int" = none) (ha : PE X e (tE F Wx f)) (hg : Gl X "int" := by rfl) (he : starEach [e] X.env = (false, eval e X.env) :: starEach [] X.env := by rfl) (hpl : (backTo pos (starEach [] X.env)).any (·.1) = false := by rfl) :
    PE X (.Call (.Name "int" p) [e] [] pos) (tE F Wx (fApp (fOne f fNil) (g1 intW))) := p_ty z bi_int (g1_calm intW_calm) hm PySem.Pv.boot_int (p_arg ha p_nil he) hg (by decide) (by decide) he hpl
theorem b_list (z : Cz F Wx G C lv X) (fz : Bool) (hm : X.mg "list" = none) (ha : PE X e (tE F Wx f)) (hg : Gl X "list" := by rfl) (he : starEach [e] X.env = (false, eval e X.env) :: starEach [] X.env := by rfl) (hpl : (backTo pos (starEach [] X.env)).any (·.1) = false := by rfl) :
    PE X (.Call (.Name "list" p) [e] [] pos) (tE F Wx (fApp (fOne f fNil) (g1 (listW fz)))) := p_ty z (bi_list fz z.ok.k z.calm) (g1_calm listW_calm) hm PyProof.Rows.boot_list (p_arg ha p_nil he) hg (by decide) (by decide) he hpl
theorem b_tuple (z : Cz F Wx G C lv X) (hm : X.mg "tuple" = none) (ha : PE X e (tE F Wx f)) (hg : Gl X "tuple" := by rfl) (he : starEach [e] X.env = (false, eval e X.env) :: starEach [] X.env := by rfl) (hpl : (backTo pos (starEach [] X.env)).any (·.1) = false := by rfl) :
    PE X (.Call (.Name "tuple" p) [e] [] pos) (tE F Wx (fApp (fOne f fNil) (g1 tupleW))) := p_ty z (bi_tuple z.ok.k) (g1_calm tupleW_calm) hm PySem.Pv.boot_tuple (p_arg ha p_nil he) hg (by decide) (by decide) he hpl
theorem b_sorted (z : Cz F Wx G C lv X) (fz : Bool) (hm : X.mg "sorted" = none) (ha : PE X e (tE F Wx f)) (hg : Gl X "sorted" := by rfl) (he : starEach [e] X.env = (false, eval e X.env) :: starEach [] X.env := by rfl) (hpl : (backTo pos (starEach [] X.env)).any (·.1) = false := by rfl) :
    PE X (.Call (.Name "sorted" p) [e] [] pos) (tE F Wx (fApp (fOne f fNil) (g1 (sortedTW fz)))) := p_bi z (bi_sorted z.ok fz) (g1_calm sortedTW_calm) hm PyProof.Rows.boot_sorted (p_arg ha p_nil he) hg (by decide) (by decide) he hpl
theorem b_dict (z : Cz F Wx G C lv X) (fz : Bool) (hm : X.mg "dict" = none) (ha : PE X e (tE F Wx f)) (hg : Gl X "dict" := by rfl) (he : starEach [e] X.env = (false, eval e X.env) :: starEach [] X.env := by rfl) (hpl : (backTo pos (starEach [] X.env)).any (·.1) = false := by rfl) :
    PE X (.Call (.Name "dict" p) [e] [] pos) (tE F Wx (fApp (fOne f fNil) (g1 (dictTW fz)))) := p_ty z (bi_dict z.ok fz) (g1_calm dictTW_calm) hm PyProof.Rows.boot_dict (p_arg ha p_nil he) hg (by decide) (by decide) he hpl
theorem b_max {a b : Expr} {g : FE} (z : Cz F Wx G C lv X) (hm : X.mg "max" = none) (ha : PE X a (tE F Wx f)) (hb : PE X b (tE F Wx g)) (hg : Gl X "max" := by rfl) (he : starEach [a, b] X.env = (false, eval a X.env) :: starEach [b] X.env := by rfl) (he2 : starEach [b] X.env = (false, eval b X.env) :: starEach [] X.env := by rfl)
    (hpl : (backTo pos (starEach [b] X.env)).any (·.1) = false := by rfl) : PE X (.Call (.Name "max" p) [a, b] [] pos) (tE F Wx (fApp (fOne f (fOne g fNil)) (g2 maxW))) := p_bi z (bi_max z.calm) (g2_calm maxW_calm) hm PyProof.Rows.boot_max (p_arg ha (p_arg hb p_nil he2) he) hg (by decide) (by decide) he hpl
theorem bt_int : bootBuiltins "int" = some (.type (tyName .int)) := PySem.Pv.boot_int
theorem bt_bool : bootBuiltins "bool" = some (.type (tyName .bool)) := by decide +kernel
theorem bt_str : bootBuiltins "str" = some (.type (tyName .str)) := by decide +kernel
theorem bt_dict : bootBuiltins "dict" = some (.type (tyName .dict)) := by decide +kernel
theorem bt_tuple : bootBuiltins "tuple" = some (.type (tyName .tuple)) := PySem.Pv.boot_tuple
/-! ### classes -/
end
/-! ### a def -/
structure ClsG (F : Fx) (K : PySem.W.Frag) (G : Gm) : Prop where
  eqn : ∀ c i, G.cls c = some i → i.eqf = none
  cls : ∀ c i, G.cls c = some i → ∃ D, (∀ ns, F.sl c = some ns → ∀ f ∈ i.flds, ∃ j : Nat, ns[j]? = some f) ∧ F.cA c = some D ∧ PySem.W.plainGet K D Str.empty = true ∧ PySem.W.isClsIn K D = true ∧ (F.sl c = none → Cls K D ∧ ∀ f ∈ i.flds, NoAttr K D f) ∧ ∀ ns, F.sl c = some ns → SlX.SCls K D ∧ ∀ (i : Nat) (f : Str), ns[i]? = some f → ∃ p, SlX.Slot1 K D f p i
theorem cz_of {F : Fx} {G : Gm} {C : Orc} {lv : Nat} {X : Cx} (hk : F.K = X.K) (hw : F.w = X.w) (g : ClsG F X.K G) (nd : X.N.Nodup) (rm : Room lv X.A) (hc : X.calm = true) (hx : X.xe = fun _ _ => False) : Cz F WN G C lv X :=
  ⟨⟨hk, hw, by have := rm.un; omega⟩, hc, nd, takes0, rm, by rw [hx]; exact PassesOwn.never, g.eqn, fun c i e => by
    obtain ⟨D, h1, h2, h3, h4, h5, h6⟩ := g.cls c i e
    exact ⟨D, h1, h2, h3, h4, h5, h6⟩⟩
open Mg in
theorem cal_of {F : Fx} {P : Program} {w : World} {K : PySem.W.Frag} {mg : Str → Option Value} {base : Heap} {G : Gm} {C : Orc} {x qual : Str} {params : Arguments} {body : List Stmt} {sc : Scope} {f : Addr} {fd : FuncData} {N ps : List Str} {n np : Nat} {fb : FS} (F1 : FunD K x qual params body sc [] [] f fd) (S : FnScope N ps sc)
    (hb : Binds K fd ps []) (hnp : ps.length = np) (hk : F.K = K) (hw : F.w = w) (g : ClsG F K G)
    (hbody : ∀ (cdv : Value) (A : Around) (stk : List Env) (s : Shared) (H : Hp), Cz F WN G C n (pR P w K mg base stk N qual sc f cdv A s H) → PSs (pR P w K mg base stk N qual sc f cdv A s H) body (tS F WN fb)) : Cal F P w K mg base (uDef np N.length fb) n f np := by
  refine ⟨⟨fd, ps, hnp, F1.ok S (fun vs H Q E h => h.1.trans hnp.symm) fun cdv A outer s H vs Q E hr ⟨hl, ρ, M, ws, rs, rw', q⟩ => ⟨_, PSs.nox (hbody cdv A outer s H (cz_of hk hw g S.nd hr rfl rfl)), ρ, ws.map some ++ List.replicate (N.length - ws.length) none, M, rs, start_rel rw', ?_⟩, hb⟩, F1.kp, uDef_ar⟩
  have hlw : ws.length = np := by rw [← rw'.length]; exact hl
  have eu : uDef np N.length fb ws M = calmO (stepO fb N.length ws M) := by
    unfold uDef
    rw [decide_eq_true hlw]
  have q : oK F (Rp F) E Q ρ H (calmO (stepO fb N.length ws M)) := by rw [← eu]; exact q
  unfold stepO at q
  cases e : fb (ws.map some ++ List.replicate (N.length - ws.length) none) M with
  | next σ1 M1 => rw [e] at q; exact fun ρ' H' τ' x s _ => q ρ' .non H' x s rfl
  | ret w M1 => rw [e] at q; exact fun ρ' H' v x s r => q ρ' v H' x s r
  | exc c es σ1 M1 => rw [e] at q; exact q.elim
  | fail => rw [e] at q; exact q
end Mp
set_option Elab.async false
set_option linter.all false
set_option maxRecDepth 100000
set_option maxHeartbeats 4000000
namespace Ms
open PySem PySem.Spec PyProof.Rows L2 Mp Mg

abbrev w_LETTERS : W := .str "abcdefghijklmnopqrstuvwxyz"
abbrev w_MOST_NAME : W := .int 8
abbrev w_MOST_NAMES : W := .int 3
abbrev w_MOST_NEEDED : W := .int 3
abbrev w_BINDINGS : W := .tup [(.str "edition"), (.str "name"), (.str "part"), (.str "whole")]
abbrev w_MANNERS : W := .tup [(.str "carry"), (.str "drop")]
abbrev w_WORDS : W := .tup [(.str "copy"), (.str "take"), (.str "unsign"), (.str "write")]
abbrev w_MAIN : W := .str "main"
abbrev w_SPARE : W := .str "spare"
abbrev w_THINGS : W := .tup [(.str "main"), (.str "spare")]
abbrev w_NOTHING : W := .tup [.non, .non, .non]
abbrev w_COPY : W := .str "copy"
abbrev w_SEND : W := .str "send"
abbrev w_SIGN : W := .str "sign"
abbrev w_TAKE : W := .str "take"
abbrev w_UNSIGN : W := .str "unsign"
abbrev w_WRITE : W := .str "write"
abbrev w_SIZES : W := .dic [.kv (.str "copy") (.int 1), .kv (.str "send") (.int 2), .kv (.str "sign") (.int 3), .kv (.str "take") (.int 2), .kv (.str "unsign") (.int 3), .kv (.str "write") (.int 4)]
def G0 : Gm := { exf := fun _ => [], cls := fun c => match c with
    | 0 => some { flds := ["needed", "persons", "size", "copy_word", "take_word", "told"], props := [], meths := [("bound", 5)], init := 3 }
    | 1 => some { flds := ["plan", "held", "noted"], props := [], meths := [("standing", 0), ("note", 1), ("put_note", 1), ("can_be", 2), ("do", 4), ("copy_main", 0), ("take", 3), ("taken", 2)], init := 0 }
    | 2 => some { flds := ["plan", "at", "done", "sends", "told_findings"], props := [], meths := [("take_in", 5)], init := 0 }
    | _ => none }
def C0 : Orc := fun _ _ _ => .fail
theorem noP0 : ∀ c i, G0.cls c = some i → i.props = [] := by
  intro c i h
  match c, h with
  | 0, h => cases h; rfl
  | 1, h => cases h; rfl
  | 2, h => cases h; rfl
  | _ + 3, h => cases h
def fb_Record_notes : FS := (sSeq (sSet (.n 1) (fDict false (dCons (fCon w_MAIN) (fDz true (fAttr G0 C0 false "persons" (fAttr G0 C0 false "plan" (fVar 0))) (fBin ixW (fAttr G0 C0 false "at" (fVar 0)) (fCon (.int 2)))) dNil))) (sSeq (sIf (fBin (cmpop G0 C0 .IsNot) (fBin ixW (fAttr G0 C0 false "at" (fVar 0)) (fCon (.int 3))) (fCon .non)) (sSeq (sSetI (fVar 1) (fCon w_SPARE) (fDz true (fAttr G0 C0 false "persons" (fAttr G0 C0 false "plan" (fVar 0))) (fBin ixW (fAttr G0 C0 false "at" (fVar 0)) (fCon (.int 3))))) sNil) sNil) (sSeq (sRet (fVar 1)) sNil)))
def u_Record_notes : List W → Store → Out W := uDef 1 2 fb_Record_notes
def fb_Record_sent : FS := (sSeq (sRet (fApp (fOne (fAttr G0 C0 false "sends" (fVar 0)) fNil) (g1 (listW true)))) sNil)
def u_Record_sent : List W → Store → Out W := uDef 1 1 fb_Record_sent
def fb_Record_found : FS := (sSeq (sRet (fApp (fOne (fAttr G0 C0 false "told_findings" (fVar 0)) fNil) (g1 (listW true)))) sNil)
def u_Record_found : List W → Store → Out W := uDef 1 1 fb_Record_found
def fb__law_mix : FS := (sSeq (sSet (.n 2) (fVar 1)) (sSeq (sFor (.n 3) (iPl (fU (fVar 0) freezeW)) (sSeq (sSet (.n 2) (fBin (binop true .Mod) (fApp (fOne (fBin (binop true .Add) (fBin (binop true .Add) (fBin (binop true .Mult) (fVar 2) (fCon (.int 48271))) (fBin (binop true .Mod) (fApp (fOne (fVar 3) fNil) (g1 intW)) (fCon (.int 2147483629)))) (fCon (.int 1))) fNil) (g1 intW)) (fCon (.int 2147483647)))) sNil)) (sSeq (sRet (fLst false (fOne (fVar 2) (fOne (fApp (fOne (fVar 0) fNil) (g1 (listW false))) (fOne (fCon (.int 0)) (fOne (fCon (.int 14)) fNil)))))) sNil)))
def u__law_mix : List W → Store → Out W := uDef 2 4 fb__law_mix
def fb_Record___init__ : FS := (sSeq (sSetA G0 (fVar 0) "plan" (fVar 1)) (sSeq (sSetA G0 (fVar 0) "at" (fVar 2)) (sSeq (sSetA G0 (fVar 0) "done" (fLst false fNil)) (sSeq (sSetA G0 (fVar 0) "sends" (fLst false fNil)) (sSeq (sSetA G0 (fVar 0) "told_findings" (fLst false fNil)) sNil)))))
def u_Record___init__ : List W → Store → Out W := uDef 3 3 fb_Record___init__
def fb_first_standing : FS := (sSeq (sRet (fTup (fOne (fBin (binop true .Mult) (fTup (fOne (fCon (.int 0)) fNil)) (fApp (fOne (fAttr G0 C0 false "needed" (fVar 0)) fNil) gLen)) (fOne (fCon .non) (fOne (fBin (binop true .Mult) (fTup (fOne (fCon w_NOTHING) fNil)) (fApp (fOne (fAttr G0 C0 false "persons" (fVar 0)) fNil) gLen)) (fOne (fCon .non) fNil)))))) sNil)
def u_first_standing : List W → Store → Out W := uDef 1 1 fb_first_standing
def fb_has_enough : FS := (sSeq (sRet (fApp (fOne (fLc true [2] (.n 2) (iPl (fAttr G0 C0 false "needed" (fVar 0))) yesQ (fBin (cmpop G0 C0 .GtE) (fApp (fOne (fBin ixW (fVar 1) (fVar 2)) fNil) gLen) (fBin ixW (fAttr G0 C0 false "needed" (fVar 0)) (fVar 2)))) fNil) (g1 allW))) sNil)
def u_has_enough : List W → Store → Out W := uDef 2 3 fb_has_enough
def fb_people_with (fbl : FE) : FS := (sSeq (sSet (.n 3) (fDict0 false)) (sSeq (sFor (.t [4, 5]) (iEn (fAttr G0 C0 false "needed" (fVar 0))) (sSeq (sSet (.n 6) (fLz true (fAttr G0 C0 false "persons" (fVar 0)) (fVar 1))) (sSeq (sSetI (fVar 3) (fVar 5) (fLc true [7, 8] (.t [7, 8]) (iPl (fVar 6)) (qT (fAnd (fBin (cmpop G0 C0 .In) (fVar 5) (fBin ixW (fBin ixW (fAttr G0 C0 false "persons" (fVar 0)) (fVar 7)) (fCon (.int 1)))) (fCallV 2 (fOne (fVar 8) (fOne (fVar 4) fNil)) fbl))) (fVar 7))) sNil))) (sSeq (sRet (fVar 3)) sNil)))
def fb_does_count : FS := (sSeq (sIf (fBin (cmpop G0 C0 .Is) (fVar 1) (fCon .non)) (sSeq (sRet (fCon (.bl false))) sNil) sNil) (sSeq (sSet (.t [4, 5]) (fVar 1)) (sSeq (sIf (fBin (cmpop G0 C0 .Eq) (fVar 0) (fCon (.str "whole"))) (sSeq (sRet (fBin (cmpop G0 C0 .Eq) (fVar 4) (fVar 2))) sNil) sNil) (sSeq (sIf (fBin (cmpop G0 C0 .Eq) (fVar 0) (fCon (.str "part"))) (sSeq (sRet (fBin (cmpop G0 C0 .Eq) (fBin ixW (fVar 4) (fVar 3)) (fBin ixW (fVar 2) (fVar 3)))) sNil) sNil) (sSeq (sRet (fAnd (fBin (cmpop G0 C0 .IsNot) (fBin ixW (fVar 4) (fVar 3)) (fCon .non)) (fOr (fBin (cmpop G0 C0 .Eq) (fVar 0) (fCon (.str "name"))) (fVar 5)))) sNil)))))
def u_does_count : List W → Store → Out W := uDef 4 6 fb_does_count
def fb_counting_at : FS := (sSeq (sSet (.n 3) (fDict0 false)) (sSeq (sFor (.t [4, 5]) (iEn (fAttr G0 C0 false "needed" (fVar 0))) (sSeq (sSet (.n 6) (fLst false fNil)) (sSeq (sFor (.t [7, 8]) (iZi (fAttr G0 C0 false "persons" (fVar 0)) (fVar 2)) (sSeq (sSet (.t [9, 10]) (fBin ixW (fAttr G0 C0 false "persons" (fVar 0)) (fVar 7))) (sSeq (sIf (fAnd (fBin (cmpop G0 C0 .In) (fVar 5) (fVar 10)) (fCall false 0 u_does_count (fOne (fVar 9) (fOne (fBin ixW (fVar 8) (fCon (.int 0))) (fOne (fVar 1) (fOne (fVar 4) fNil)))))) (sSeq (sExp (fBmt isLo (gm1 appendW) (fVar 6) (fOne (fVar 7) fNil))) sNil) sNil) sNil))) (sSeq (sSetI (fVar 3) (fVar 5) (fApp (fOne (fVar 6) fNil) (g1 tupleW))) sNil)))) (sSeq (sRet (fVar 3)) sNil)))
def u_counting_at : List W → Store → Out W := uDef 3 11 fb_counting_at
def fb_goes_out : FS := (sSeq (sRet (fCall false 0 u_has_enough (fOne (fVar 0) (fOne (fCall false 1 u_counting_at (fOne (fVar 0) (fOne (fVar 1) (fOne (fVar 2) fNil)))) fNil)))) sNil)
def u_goes_out : List W → Store → Out W := uDef 3 3 fb_goes_out
def fl_1 : FE := (fBin (cmpop G0 C0 .Eq) (fBin ixW (fVar 0) (fCon (.int 2))) (fVar 2))
def fl_2 : FE := (fAnd (fBin (cmpop G0 C0 .IsNot) (fBin ixW (fVar 0) (fCon (.int 1))) (fCon .non)) (fBin (cmpop G0 C0 .Eq) (fBin ixW (fBin ixW (fVar 0) (fCon (.int 1))) (fVar 1)) (fBin ixW (fVar 2) (fVar 1))))
def fb_send_findings : FS := (sSeq (sSet (.n 4) (fCall false 0 u_has_enough (fOne (fVar 0) (fOne (fLam (fVar 0) (fVar 3) 2 9 (fb_people_with fl_1)) fNil)))) (sSeq (sIf (fNot (fCall false 2 u_goes_out (fOne (fVar 0) (fOne (fVar 2) (fOne (fVar 3) fNil))))) (sSeq (sRet (fIfe (fVar 4) (fLst true (fOne (fTup (fOne (fCon (.str "held")) (fOne (fVar 1) fNil))) fNil)) (fLst true fNil))) sNil) sNil) (sSeq (sSet (.n 5) (fLam (fVar 0) (fVar 3) 2 9 (fb_people_with fl_2))) (sSeq (sIf (fNot (fCall false 0 u_has_enough (fOne (fVar 0) (fOne (fVar 5) fNil)))) (sSeq (sRet (fLst true (fOne (fTup (fOne (fCon (.str "unseen")) (fOne (fVar 1) fNil))) fNil))) sNil) sNil) (sSeq (sRet (fIfe (fVar 4) (fLst true fNil) (fLst true (fOne (fTup (fOne (fCon (.str "pieced")) (fOne (fVar 1) fNil))) fNil)))) sNil)))))
def u_send_findings : List W → Store → Out W := uDef 4 6 fb_send_findings
def fb_lost_people : FS := (sSeq (sSet (.n 4) (fCall false 1 u_counting_at (fOne (fVar 0) (fOne (fBin ixW (fVar 2) (fCon (.int 0))) (fOne (fBin ixW (fVar 2) (fCon (.int 2))) fNil))))) (sSeq (sSet (.n 5) (fCall false 1 u_counting_at (fOne (fVar 0) (fOne (fBin ixW (fVar 3) (fCon (.int 0))) (fOne (fBin ixW (fVar 3) (fCon (.int 2))) fNil))))) (sSeq (sSet (.n 6) (fLst false fNil)) (sSeq (sFor (.n 7) (iPl (fAttr G0 C0 false "persons" (fVar 0))) (sSeq (sNm 8 (fLc true [9, 10] (.t [9, 10]) (iEn (fAttr G0 C0 false "needed" (fVar 0))) (qT (fBin (cmpop G0 C0 .Eq) (fBin ixW (fBin ixW (fVar 2) (fCon (.int 0))) (fVar 9)) (fBin ixW (fBin ixW (fVar 3) (fCon (.int 0))) (fVar 9)))) (fVar 10))) (sSeq (sNm 8 (fLc true [10] (.n 10) (iPl (fVar 8)) (qT (fAnd (fBin (cmpop G0 C0 .In) (fVar 7) (fBin ixW (fVar 4) (fVar 10))) (fBin (cmpop G0 C0 .NotIn) (fVar 7) (fBin ixW (fVar 5) (fVar 10))))) (fVar 10))) (sSeq (sIf (fAnd (fBin (cmpop G0 C0 .NotEq) (fVar 8) (fLst false fNil)) (fBin (cmpop G0 C0 .NotEq) (fVar 1) (fTup (fOne (fCon w_UNSIGN) (fOne (fVar 7) (fOne (fCon w_MAIN) fNil)))))) (sSeq (sExp (fBmt isLo (gm1 appendW) (fVar 6) (fOne (fVar 7) fNil))) sNil) sNil) sNil)))) (sSeq (sRet (fVar 6)) sNil)))))
def u_lost_people : List W → Store → Out W := uDef 4 11 fb_lost_people
def fb_findings_of : FS := (sSeq (sIf (fBin (cmpop G0 C0 .Eq) (fBin ixW (fVar 1) (fCon (.int 0))) (fCon w_SEND)) (sSeq (sSet (.n 4) (fIfe (fBin (cmpop G0 C0 .Eq) (fBin ixW (fVar 1) (fCon (.int 1))) (fCon w_MAIN)) (fCon (.int 0)) (fCon (.int 1)))) (sSeq (sRet (fCall false 3 u_send_findings (fOne (fVar 0) (fOne (fBin ixW (fVar 1) (fCon (.int 1))) (fOne (fBin ixW (fVar 2) (fVar 4)) (fOne (fBin ixW (fVar 2) (fBin (binop true .Add) (fVar 4) (fCon (.int 2)))) fNil)))))) sNil)) sNil) (sSeq (sRet (fLc true [5] (.n 5) (iPl (fU (fCall false 2 u_lost_people (fOne (fVar 0) (fOne (fVar 1) (fOne (fVar 2) (fOne (fVar 3) fNil))))) freezeW)) yesQ (fTup (fOne (fCon (.str "lost")) (fOne (fVar 5) fNil))))) sNil))
def u_findings_of : List W → Store → Out W := uDef 4 6 fb_findings_of
def fb_is_sent : FS := (sSeq (sSet (.n 3) (fIfe (fBin (cmpop G0 C0 .Eq) (fVar 2) (fCon w_MAIN)) (fCon (.int 0)) (fCon (.int 1)))) (sSeq (sRet (fCall false 2 u_goes_out (fOne (fVar 0) (fOne (fBin ixW (fVar 1) (fVar 3)) (fOne (fBin ixW (fVar 1) (fBin (binop true .Add) (fVar 3) (fCon (.int 2)))) fNil))))) sNil))
def u_is_sent : List W → Store → Out W := uDef 3 4 fb_is_sent
def fb_Record_take_in : FS := (sSeq (sExp (fBmt isLo (gm1 appendW) (fAttr G0 C0 false "done" (fVar 0)) (fOne (fVar 1) fNil))) (sSeq (sSet (.n 3) (fCall false 4 u_findings_of (fOne (fAttr G0 C0 false "plan" (fVar 0)) (fOne (fVar 1) (fOne (fAttr G0 C0 false "at" (fVar 0)) (fOne (fVar 2) fNil)))))) (sSeq (sExp (fBmt isLo (gm1 extendW) (fAttr G0 C0 false "told_findings" (fVar 0)) (fOne (fLc true [4] (.n 4) (iPl (fVar 3)) yesQ (fTup (fOne (fApp (fOne (fAttr G0 C0 false "done" (fVar 0)) fNil) gLen) (fOne (fVar 4) fNil)))) fNil))) (sSeq (sIf (fBin (cmpop G0 C0 .Eq) (fBin ixW (fVar 1) (fCon (.int 0))) (fCon w_SEND)) (sSeq (sExp (fBmt isLo (gm1 appendW) (fAttr G0 C0 false "sends" (fVar 0)) (fOne (fTup (fOne (fBin ixW (fVar 1) (fCon (.int 1))) (fOne (fCall false 3 u_is_sent (fOne (fAttr G0 C0 false "plan" (fVar 0)) (fOne (fAttr G0 C0 false "at" (fVar 0)) (fOne (fBin ixW (fVar 1) (fCon (.int 1))) fNil)))) fNil))) fNil))) sNil) sNil) (sSeq (sSetA G0 (fVar 0) "at" (fVar 2)) sNil)))))
def u_Record_take_in : List W → Store → Out W := uDef 3 5 fb_Record_take_in
def fb_is_thing : FS := (sSeq (sRet (fAnd (fIs .str (fVar 0)) (fBin (cmpop G0 C0 .In) (fVar 0) (fCon w_THINGS)))) sNil)
def u_is_thing : List W → Store → Out W := uDef 1 1 fb_is_thing
def fb_is_one_of : FS := (sSeq (sRet (fAnd (fIs .str (fVar 0)) (fBin (cmpop G0 C0 .In) (fVar 0) (fVar 1)))) sNil)
def u_is_one_of : List W → Store → Out W := uDef 2 2 fb_is_one_of
def fb_is_integer : FS := (sSeq (sRet (fAnd (fIs .int (fVar 0)) (fNot (fIs .bool (fVar 0))))) sNil)
def u_is_integer : List W → Store → Out W := uDef 1 1 fb_is_integer
def fb_is_deed : FS := (sSeq (sIf (fOr (fNot (fIs .tuple (fVar 1))) (fOr (fBin (cmpop G0 C0 .Eq) (fApp (fOne (fVar 1) fNil) gLen) (fCon (.int 0))) (fNot (fIs .str (fBin ixW (fVar 1) (fCon (.int 0))))))) (sSeq (sRet (fCon (.bl false))) sNil) sNil) (sSeq (sSet (.n 2) (fBin ixW (fVar 1) (fCon (.int 0)))) (sSeq (sIf (fOr (fBin (cmpop G0 C0 .NotEq) (fBmt isDo gmGet (fCon w_SIZES) (fOne (fVar 2) (fOne (fCon (.int 0)) fNil))) (fApp (fOne (fVar 1) fNil) gLen)) (fAnd (fBin (cmpop G0 C0 .NotIn) (fVar 2) (fTup (fOne (fCon w_SIGN) (fOne (fCon w_SEND) fNil)))) (fBin (cmpop G0 C0 .NotIn) (fVar 2) (fAttr G0 C0 false "told" (fVar 0))))) (sSeq (sRet (fCon (.bl false))) sNil) sNil) (sSeq (sIf (fBin (cmpop G0 C0 .Eq) (fVar 2) (fCon w_COPY)) (sSeq (sRet (fCon (.bl true))) sNil) sNil) (sSeq (sIf (fBin (cmpop G0 C0 .Eq) (fVar 2) (fCon w_SEND)) (sSeq (sRet (fCall false 0 u_is_thing (fOne (fBin ixW (fVar 1) (fCon (.int 1))) fNil))) sNil) sNil) (sSeq (sIf (fBin (cmpop G0 C0 .Eq) (fVar 2) (fCon w_TAKE)) (sSeq (sRet (fCall false 0 u_is_one_of (fOne (fBin ixW (fVar 1) (fCon (.int 1))) (fOne (fAttr G0 C0 false "needed" (fVar 0)) fNil)))) sNil) sNil) (sSeq (sIf (fBin (cmpop G0 C0 .In) (fVar 2) (fTup (fOne (fCon w_SIGN) (fOne (fCon w_UNSIGN) fNil)))) (sSeq (sRet (fAnd (fCall false 0 u_is_one_of (fOne (fBin ixW (fVar 1) (fCon (.int 1))) (fOne (fAttr G0 C0 false "persons" (fVar 0)) fNil))) (fCall false 0 u_is_thing (fOne (fBin ixW (fVar 1) (fCon (.int 2))) fNil)))) sNil) sNil) (sSeq (sIf (fOr (fNot (fCall false 0 u_is_thing (fOne (fBin ixW (fVar 1) (fCon (.int 1))) fNil))) (fNot (fCall false 0 u_is_one_of (fOne (fBin ixW (fVar 1) (fCon (.int 2))) (fOne (fAttr G0 C0 false "needed" (fVar 0)) fNil))))) (sSeq (sRet (fCon (.bl false))) sNil) sNil) (sSeq (sRet (fAnd (fCall false 0 u_is_integer (fOne (fBin ixW (fVar 1) (fCon (.int 3))) fNil)) (fCh (fun i j => decide (i ≤ j)) (fun i j => decide (i < j)) (fCon (.int 0)) (fBin ixW (fVar 1) (fCon (.int 3))) (fAttr G0 C0 false "size" (fVar 0))))) sNil)))))))))
def u_is_deed : List W → Store → Out W := uDef 2 3 fb_is_deed
def fb_Hand___init__ : FS := (sSeq (sSetA G0 (fVar 0) "plan" (fVar 1)) (sSeq (sSetA G0 (fVar 0) "held" (fDict false (dCons (fCon w_MAIN) (fBin ixW (fVar 2) (fCon (.int 0))) (dCons (fCon w_SPARE) (fBin ixW (fVar 2) (fCon (.int 1))) dNil)))) (sSeq (sSetA G0 (fVar 0) "noted" (fDict false (dCons (fCon w_MAIN) (fBin ixW (fVar 2) (fCon (.int 2))) (dCons (fCon w_SPARE) (fBin ixW (fVar 2) (fCon (.int 3))) dNil)))) sNil)))
def u_Hand___init__ : List W → Store → Out W := uDef 3 3 fb_Hand___init__
def fb_Hand_copy_main : FS := (sSeq (sSetI (fAttr G0 C0 false "held" (fVar 0)) (fCon w_SPARE) (fBin ixW (fAttr G0 C0 false "held" (fVar 0)) (fCon w_MAIN))) (sSeq (sSet (.n 1) (fBin (cmpop G0 C0 .Eq) (fAttr G0 C0 false "copy_word" (fAttr G0 C0 false "plan" (fVar 0))) (fCon (.str "carry")))) (sSeq (sSetI (fAttr G0 C0 false "noted" (fVar 0)) (fCon w_SPARE) (fApp (fOne (fLc true [2] (.n 2) (iPl (fBin ixW (fAttr G0 C0 false "noted" (fVar 0)) (fCon w_MAIN))) yesQ (fTup (fOne (fIfe (fVar 1) (fBin ixW (fVar 2) (fCon (.int 0))) (fCon .non)) (fStar (fSl (fVar 2) (oSo (fCon (.int 1))) oNo) fNil)))) fNil) (g1 tupleW))) sNil)))
def u_Hand_copy_main : List W → Store → Out W := uDef 1 3 fb_Hand_copy_main
def fb_index_of : FS := (sSeq (sRet (fBmt isLo (gm1 indexW) (fApp (fOne (fVar 0) fNil) (g1 (listW true))) (fOne (fVar 1) fNil))) sNil)
def u_index_of : List W → Store → Out W := uDef 2 2 fb_index_of
def fb_replaced : FS := (sSeq (sRet (fTup (fStar (fSl (fVar 0) oNo (oSo (fVar 1))) (fOne (fVar 2) (fStar (fSl (fVar 0) (oSo (fBin (binop true .Add) (fVar 1) (fCon (.int 1)))) oNo) fNil))))) sNil)
def u_replaced : List W → Store → Out W := uDef 3 3 fb_replaced
def fb_stale : FS := (sSeq (sSet (.t [1, 2, 3]) (fVar 0)) (sSeq (sRet (fTup (fOne (fIfe (fBin (cmpop G0 C0 .Is) (fVar 1) (fCon .non)) (fCon .non) (fTup (fOne (fBin ixW (fVar 1) (fCon (.int 0))) (fOne (fCon (.bl false)) fNil)))) (fOne (fVar 2) (fOne (fVar 3) fNil))))) sNil))
def u_stale : List W → Store → Out W := uDef 1 4 fb_stale
def fb_put_together : FS := (sSeq (sSet (.n 4) (fCall false 0 u_replaced (fOne (fIfe (fBin (cmpop G0 C0 .Is) (fVar 0) (fCon .non)) (fBin (binop true .Mult) (fTup (fOne (fCon .non) fNil)) (fVar 3)) (fVar 0)) (fOne (fVar 1) (fOne (fVar 2) fNil))))) (sSeq (sRet (fIfe (fBin (cmpop G0 C0 .Eq) (fVar 4) (fBin (binop true .Mult) (fTup (fOne (fCon .non) fNil)) (fVar 3))) (fCon .non) (fVar 4))) sNil))
def u_put_together : List W → Store → Out W := uDef 4 5 fb_put_together
def fb_Hand_taken : FS := (sSeq (sSet (.t [4, 5, 6]) (fCall false 0 u_stale (fOne (fVar 1) fNil))) (sSeq (sSet (.n 7) (fApp (fOne (fAttr G0 C0 false "needed" (fAttr G0 C0 false "plan" (fVar 0))) fNil) gLen)) (sSeq (sSet (.n 5) (fCall false 1 u_put_together (fOne (fVar 5) (fOne (fVar 3) (fOne (fIfe (fBin (cmpop G0 C0 .Is) (fBin ixW (fVar 2) (fCon (.int 1))) (fCon .non)) (fCon .non) (fBin ixW (fBin ixW (fVar 2) (fCon (.int 1))) (fVar 3))) (fOne (fVar 7) fNil)))))) (sSeq (sIf (fBin (cmpop G0 C0 .Eq) (fAttr G0 C0 false "take_word" (fAttr G0 C0 false "plan" (fVar 0))) (fCon (.str "carry"))) (sSeq (sSet (.n 8) (fIfe (fBin (cmpop G0 C0 .Is) (fVar 4) (fCon .non)) (fCon .non) (fBin ixW (fVar 4) (fCon (.int 0))))) (sSeq (sSet (.n 9) (fCall false 1 u_put_together (fOne (fVar 8) (fOne (fVar 3) (fOne (fIfe (fBin (cmpop G0 C0 .Is) (fBin ixW (fVar 2) (fCon (.int 0))) (fCon .non)) (fCon .non) (fBin ixW (fBin ixW (fBin ixW (fVar 2) (fCon (.int 0))) (fCon (.int 0))) (fVar 3))) (fOne (fVar 7) fNil)))))) (sSeq (sSet (.n 4) (fIfe (fBin (cmpop G0 C0 .Is) (fVar 9) (fCon .non)) (fCon .non) (fTup (fOne (fVar 9) (fOne (fCon (.bl false)) fNil))))) sNil))) sNil) (sSeq (sRet (fTup (fOne (fVar 4) (fOne (fVar 5) (fOne (fVar 6) fNil))))) sNil)))))
def u_Hand_taken : List W → Store → Out W := uDef 4 10 fb_Hand_taken
def fb_Hand_take : FS := (sSeq (sSet (.n 2) (fCall false 0 u_index_of (fOne (fAttr G0 C0 false "needed" (fAttr G0 C0 false "plan" (fVar 0))) (fOne (fVar 1) fNil)))) (sSeq (sSetI (fAttr G0 C0 false "held" (fVar 0)) (fCon w_MAIN) (fCall false 0 u_replaced (fOne (fBin ixW (fAttr G0 C0 false "held" (fVar 0)) (fCon w_MAIN)) (fOne (fVar 2) (fOne (fBin ixW (fBin ixW (fAttr G0 C0 false "held" (fVar 0)) (fCon w_SPARE)) (fVar 2)) fNil))))) (sSeq (sSet (.n 3) (fLz true (fBin ixW (fAttr G0 C0 false "noted" (fVar 0)) (fCon w_MAIN)) (fBin ixW (fAttr G0 C0 false "noted" (fVar 0)) (fCon w_SPARE)))) (sSeq (sSetI (fAttr G0 C0 false "noted" (fVar 0)) (fCon w_MAIN) (fApp (fOne (fLc true [4, 5] (.t [4, 5]) (iPl (fVar 3)) yesQ (fMeth G0 u_Hand_taken false 1 "taken" (fVar 0) (fOne (fVar 4) (fOne (fVar 5) (fOne (fVar 2) fNil))))) fNil) (g1 tupleW))) sNil))))
def u_Hand_take : List W → Store → Out W := uDef 2 6 fb_Hand_take
def fb_Hand_put_note : FS := (sSeq (sSetI (fAttr G0 C0 false "noted" (fVar 0)) (fVar 2) (fCall false 0 u_replaced (fOne (fBin ixW (fAttr G0 C0 false "noted" (fVar 0)) (fVar 2)) (fOne (fCall false 0 u_index_of (fOne (fAttr G0 C0 false "persons" (fAttr G0 C0 false "plan" (fVar 0))) (fOne (fVar 1) fNil))) (fOne (fVar 3) fNil))))) sNil)
def u_Hand_put_note : List W → Store → Out W := uDef 4 4 fb_Hand_put_note
def fb_Hand_do : FS := (sSeq (sSet (.n 2) (fBin ixW (fVar 1) (fCon (.int 0)))) (sSeq (sIf (fBin (cmpop G0 C0 .Eq) (fVar 2) (fCon w_COPY)) (sSeq (sExp (fMeth0 G0 u_Hand_copy_main false 1 "copy_main" (fVar 0))) sNil) (sSeq (sIf (fBin (cmpop G0 C0 .Eq) (fVar 2) (fCon w_TAKE)) (sSeq (sExp (fMeth G0 u_Hand_take false 1 "take" (fVar 0) (fOne (fBin ixW (fVar 1) (fCon (.int 1))) fNil))) sNil) (sSeq (sIf (fBin (cmpop G0 C0 .Eq) (fVar 2) (fCon w_SIGN)) (sSeq (sSet (.n 3) (fBin ixW (fAttr G0 C0 false "held" (fVar 0)) (fBin ixW (fVar 1) (fCon (.int 2))))) (sSeq (sExp (fMeth G0 u_Hand_put_note false 1 "put_note" (fVar 0) (fOne (fBin ixW (fVar 1) (fCon (.int 1))) (fOne (fBin ixW (fVar 1) (fCon (.int 2))) (fOne (fTup (fOne (fTup (fOne (fVar 3) (fOne (fCon (.bl true)) fNil))) (fOne (fVar 3) (fOne (fVar 3) fNil)))) fNil))))) sNil)) (sSeq (sIf (fBin (cmpop G0 C0 .Eq) (fVar 2) (fCon w_UNSIGN)) (sSeq (sExp (fMeth G0 u_Hand_put_note false 1 "put_note" (fVar 0) (fOne (fBin ixW (fVar 1) (fCon (.int 1))) (fOne (fBin ixW (fVar 1) (fCon (.int 2))) (fOne (fCon w_NOTHING) fNil))))) sNil) (sSeq (sIf (fBin (cmpop G0 C0 .Eq) (fVar 2) (fCon w_WRITE)) (sSeq (sSet (.n 4) (fCall false 0 u_index_of (fOne (fAttr G0 C0 false "needed" (fAttr G0 C0 false "plan" (fVar 0))) (fOne (fBin ixW (fVar 1) (fCon (.int 2))) fNil)))) (sSeq (sSetI (fAttr G0 C0 false "held" (fVar 0)) (fBin ixW (fVar 1) (fCon (.int 1))) (fCall false 0 u_replaced (fOne (fBin ixW (fAttr G0 C0 false "held" (fVar 0)) (fBin ixW (fVar 1) (fCon (.int 1)))) (fOne (fVar 4) (fOne (fBin ixW (fVar 1) (fCon (.int 3))) fNil))))) (sSeq (sSetI (fAttr G0 C0 false "noted" (fVar 0)) (fBin ixW (fVar 1) (fCon (.int 1))) (fApp (fOne (fLc true [5] (.n 5) (iPl (fBin ixW (fAttr G0 C0 false "noted" (fVar 0)) (fBin ixW (fVar 1) (fCon (.int 1))))) yesQ (fCall false 0 u_stale (fOne (fVar 5) fNil))) fNil) (g1 tupleW))) sNil))) sNil) sNil)) sNil)) sNil)) sNil)) sNil))
def u_Hand_do : List W → Store → Out W := uDef 2 6 fb_Hand_do
def fb_Hand_standing : FS := (sSeq (sRet (fTup (fOne (fBin ixW (fAttr G0 C0 false "held" (fVar 0)) (fCon w_MAIN)) (fOne (fBin ixW (fAttr G0 C0 false "held" (fVar 0)) (fCon w_SPARE)) (fOne (fBin ixW (fAttr G0 C0 false "noted" (fVar 0)) (fCon w_MAIN)) (fOne (fBin ixW (fAttr G0 C0 false "noted" (fVar 0)) (fCon w_SPARE)) fNil)))))) sNil)
def u_Hand_standing : List W → Store → Out W := uDef 1 1 fb_Hand_standing
def fb_Hand_note : FS := (sSeq (sRet (fBin ixW (fBin ixW (fAttr G0 C0 false "noted" (fVar 0)) (fVar 2)) (fCall false 0 u_index_of (fOne (fAttr G0 C0 false "persons" (fAttr G0 C0 false "plan" (fVar 0))) (fOne (fVar 1) fNil))))) sNil)
def u_Hand_note : List W → Store → Out W := uDef 3 3 fb_Hand_note
def fb_Hand_can_be : FS := (sSeq (sSet (.n 2) (fBin ixW (fVar 1) (fCon (.int 0)))) (sSeq (sIf (fBin (cmpop G0 C0 .Eq) (fVar 2) (fCon w_COPY)) (sSeq (sRet (fCon (.bl true))) sNil) sNil) (sSeq (sIf (fBin (cmpop G0 C0 .Eq) (fVar 2) (fCon w_TAKE)) (sSeq (sRet (fBin (cmpop G0 C0 .IsNot) (fBin ixW (fAttr G0 C0 false "held" (fVar 0)) (fCon w_SPARE)) (fCon .non))) sNil) sNil) (sSeq (sSet (.n 3) (fIfe (fBin (cmpop G0 C0 .In) (fVar 2) (fTup (fOne (fCon w_SIGN) (fOne (fCon w_UNSIGN) fNil)))) (fBin ixW (fVar 1) (fCon (.int 2))) (fBin ixW (fVar 1) (fCon (.int 1))))) (sSeq (sIf (fBin (cmpop G0 C0 .Is) (fBin ixW (fAttr G0 C0 false "held" (fVar 0)) (fVar 3)) (fCon .non)) (sSeq (sRet (fCon (.bl false))) sNil) sNil) (sSeq (sIf (fBin (cmpop G0 C0 .Eq) (fVar 2) (fCon w_UNSIGN)) (sSeq (sRet (fBin (cmpop G0 C0 .NotEq) (fMeth G0 u_Hand_note false 1 "note" (fVar 0) (fOne (fBin ixW (fVar 1) (fCon (.int 1))) (fOne (fVar 3) fNil))) (fCon w_NOTHING))) sNil) sNil) (sSeq (sRet (fOr (fBin (cmpop G0 C0 .NotEq) (fVar 2) (fCon w_WRITE)) (fBin (cmpop G0 C0 .NotEq) (fBin ixW (fBin ixW (fAttr G0 C0 false "held" (fVar 0)) (fVar 3)) (fCall false 0 u_index_of (fOne (fAttr G0 C0 false "needed" (fAttr G0 C0 false "plan" (fVar 0))) (fOne (fBin ixW (fVar 1) (fCon (.int 2))) fNil)))) (fBin ixW (fVar 1) (fCon (.int 3)))))) sNil)))))))
def u_Hand_can_be : List W → Store → Out W := uDef 2 4 fb_Hand_can_be
def fb_led_to : FS := (sSeq (sSet (.n 3) (fMake G0 u_Hand___init__ 1 (fOne (fVar 0) (fOne (fVar 1) fNil)))) (sSeq (sIf (fNot (fMeth G0 u_Hand_can_be false 1 "can_be" (fVar 3) (fOne (fVar 2) fNil))) (sSeq (sRet (fCon .non)) sNil) sNil) (sSeq (sExp (fMeth G0 u_Hand_do false 1 "do" (fVar 3) (fOne (fVar 2) fNil))) (sSeq (sRet (fMeth0 G0 u_Hand_standing false 1 "standing" (fVar 3))) sNil))))
def u_led_to : List W → Store → Out W := uDef 3 4 fb_led_to
def fb_replay : FS := (sSeq (sSet (.n 2) (fMake G0 u_Record___init__ 2 (fOne (fVar 0) (fOne (fCall false 0 u_first_standing (fOne (fVar 0) fNil)) fNil)))) (sSeq (sFor (.t [3, 4]) (iEn (fVar 1)) (sSeq (sSet (.n 5) (fIfe (fCall false 1 u_is_deed (fOne (fVar 0) (fOne (fVar 4) fNil))) (fCall false 5 u_led_to (fOne (fVar 0) (fOne (fAttr G0 C0 false "at" (fVar 2)) (fOne (fVar 4) fNil)))) (fCon .non))) (sSeq (sIf (fBin (cmpop G0 C0 .Is) (fVar 5) (fCon .non)) (sSeq sNo sNil) sNil) (sSeq (sExp (fMeth G0 u_Record_take_in false 2 "take_in" (fVar 2) (fOne (fVar 4) (fOne (fVar 5) fNil)))) sNil)))) (sSeq (sRet (fVar 2)) sNil)))
def u_replay : List W → Store → Out W := uDef 2 6 fb_replay
def fb_are_of : FS := (sSeq (sIf (fOr (fNot (fIs .tuple (fVar 0))) (fNot (fApp (fOne (fLc true [2] (.n 2) (iPl (fVar 0)) yesQ (fAnd (fIs .str (fVar 2)) (fBin (cmpop G0 C0 .In) (fVar 2) (fVar 1)))) fNil) (g1 allW)))) (sSeq (sRet (fCon (.bl false))) sNil) sNil) (sSeq (sRet (fBin (cmpop G0 C0 .Eq) (fApp (fOne (fVar 0) fNil) (g1 (listW true))) (fU (fVar 0) (sortedSetTW true)))) sNil))
def u_are_of : List W → Store → Out W := uDef 2 3 fb_are_of
def fb_is_binding : FS := (sSeq (sRet (fAnd (fIs .str (fVar 0)) (fBin (cmpop G0 C0 .In) (fVar 0) (fCon w_BINDINGS)))) sNil)
def u_is_binding : List W → Store → Out W := uDef 1 1 fb_is_binding
def fb_is_person : FS := (sSeq (sIf (fOr (fNot (fIs .tuple (fVar 1))) (fOr (fBin (cmpop G0 C0 .NotEq) (fApp (fOne (fVar 1) fNil) gLen) (fCon (.int 2))) (fNot (fCall false 0 u_is_binding (fOne (fBin ixW (fVar 1) (fCon (.int 0))) fNil))))) (sSeq (sRet (fCon (.bl false))) sNil) sNil) (sSeq (sRet (fAnd (fCall false 0 u_are_of (fOne (fBin ixW (fVar 1) (fCon (.int 1))) (fOne (fApp (fOne (fVar 0) fNil) (g1 (listW true))) fNil))) (fBin (cmpop G0 C0 .Gt) (fApp (fOne (fBin ixW (fVar 1) (fCon (.int 1))) fNil) gLen) (fCon (.int 0))))) sNil))
def u_is_person : List W → Store → Out W := uDef 2 2 fb_is_person
def fb_is_name : FS := (sSeq (sRet (fAnd (fIs .str (fVar 0)) (fAnd (fCh (fun i j => decide (i ≤ j)) (fun i j => decide (i ≤ j)) (fCon (.int 1)) (fApp (fOne (fVar 0) fNil) gLen) (fCon w_MOST_NAME)) (fApp (fOne (fLc true [1] (.n 1) (iPl (fVar 0)) yesQ (fBin (cmpop G0 C0 .In) (fVar 1) (fCon w_LETTERS))) fNil) (g1 allW))))) sNil)
def u_is_name : List W → Store → Out W := uDef 1 2 fb_is_name
def fb_look_at_people : FS := (sSeq (sIf (fOr (fNot (fIs .dict (fVar 1))) (fOr (fNot (fCh (fun i j => decide (i ≤ j)) (fun i j => decide (i ≤ j)) (fCon (.int 1)) (fApp (fOne (fVar 1) fNil) gLen) (fCon w_MOST_NAMES))) (fNot (fApp (fOne (fLc true [3] (.n 3) (iPl (fVar 1)) yesQ (fCall false 0 u_is_name (fOne (fVar 3) fNil))) fNil) (g1 allW))))) (sSeq sNo sNil) sNil) (sSeq (sFor (.n 2) (iPl (fApp (fOne (fApp (fOne (fVar 1) fNil) (g1 (listW true))) fNil) (g1 (sortedTW true)))) (sSeq (sIf (fNot (fCall false 1 u_is_person (fOne (fVar 0) (fOne (fBin ixW (fVar 1) (fVar 2)) fNil)))) (sSeq sNo sNil) sNil) sNil)) sNil))
def u_look_at_people : List W → Store → Out W := uDef 2 4 fb_look_at_people
def fb_are_parts : FS := (sSeq (sIf (fOr (fNot (fIs .dict (fVar 0))) (fOr (fNot (fCh (fun i j => decide (i ≤ j)) (fun i j => decide (i ≤ j)) (fCon (.int 1)) (fApp (fOne (fVar 0) fNil) gLen) (fCon w_MOST_NAMES))) (fNot (fApp (fOne (fLc true [1] (.n 1) (iPl (fVar 0)) yesQ (fCall false 0 u_is_name (fOne (fVar 1) fNil))) fNil) (g1 allW))))) (sSeq (sRet (fCon (.bl false))) sNil) sNil) (sSeq (sRet (fApp (fOne (fLc true [1] (.n 1) (iPl (fVar 0)) yesQ (fAnd (fCall false 0 u_is_integer (fOne (fBin ixW (fVar 0) (fVar 1)) fNil)) (fCh (fun i j => decide (i ≤ j)) (fun i j => decide (i ≤ j)) (fCon (.int 1)) (fBin ixW (fVar 0) (fVar 1)) (fCon w_MOST_NEEDED)))) fNil) (g1 allW))) sNil))
def u_are_parts : List W → Store → Out W := uDef 1 2 fb_are_parts
def fb_Book___init__ : FS := (sSeq (sIf (fNot (fCall false 1 u_are_parts (fOne (fVar 1) fNil))) (sSeq sNo sNil) sNil) (sSeq (sExp (fCall false 2 u_look_at_people (fOne (fVar 1) (fOne (fVar 2) fNil)))) (sSeq (sIf (fOr (fNot (fCall false 0 u_is_integer (fOne (fVar 3) fNil))) (fBin (cmpop G0 C0 .NotIn) (fVar 3) (fTup (fOne (fCon (.int 2)) (fOne (fCon (.int 3)) fNil))))) (sSeq sNo sNil) sNil) (sSeq (sFor (.n 7) (iPl (fTup (fOne (fVar 4) (fOne (fVar 5) fNil)))) (sSeq (sIf (fOr (fNot (fIs .str (fVar 7))) (fBin (cmpop G0 C0 .NotIn) (fVar 7) (fCon w_MANNERS))) (sSeq sNo sNil) sNil) sNil)) (sSeq (sIf (fNot (fCall false 0 u_are_of (fOne (fVar 6) (fOne (fCon w_WORDS) fNil)))) (sSeq sNo sNil) sNil) (sSeq (sSetA G0 (fVar 0) "needed" (fDc true [8] (.n 8) (iPl (fApp (fOne (fApp (fOne (fVar 1) fNil) (g1 (listW true))) fNil) (g1 (sortedTW true)))) yesQ (fVar 8) (fBin ixW (fVar 1) (fVar 8)))) (sSeq (sSetA G0 (fVar 0) "persons" (fDc true [8] (.n 8) (iPl (fApp (fOne (fApp (fOne (fVar 2) fNil) (g1 (listW true))) fNil) (g1 (sortedTW true)))) yesQ (fVar 8) (fBin ixW (fVar 2) (fVar 8)))) (sSeq (sSetA G0 (fVar 0) "size" (fVar 3)) (sSeq (sSetA G0 (fVar 0) "copy_word" (fVar 4)) (sSeq (sSetA G0 (fVar 0) "take_word" (fVar 5)) (sSeq (sSetA G0 (fVar 0) "told" (fVar 6)) sNil)))))))))))
def u_Book___init__ : List W → Store → Out W := uDef 7 9 fb_Book___init__
def fb__law_book_of : FS := (sSeq (sSet (.t [4, 5, 6, 7]) (fVar 0)) (sSeq (sSet (.n 8) (fDict true (dCons (fVar 4) (fTup (fOne (fVar 1) (fOne (fTup (fOne (fVar 6) (fOne (fVar 7) fNil))) fNil))) (dCons (fVar 5) (fTup (fOne (fVar 1) (fOne (fTup (fOne (fVar 7) fNil)) fNil))) dNil)))) (sSeq (sRet (fMake G0 u_Book___init__ 0 (fOne (fDict true (dCons (fVar 6) (fCon (.int 1)) (dCons (fVar 7) (fCon (.int 1)) dNil))) (fOne (fVar 8) (fOne (fCon (.int 2)) (fOne (fVar 2) (fOne (fVar 3) (fOne (fTup (fOne (fCon (.str "copy")) (fOne (fCon (.str "take")) (fOne (fCon (.str "unsign")) (fOne (fCon (.str "write")) fNil))))) fNil)))))))) sNil)))
def u__law_book_of : List W → Store → Out W := uDef 4 9 fb__law_book_of
def fb__law_next : FS := (sSeq (sSet (.n 2) (fBin ixW (fBin (binop true .Add) (fBin ixW (fVar 0) (fCon (.int 1))) (fLst true (fOne (fCon (.int 0)) fNil))) (fBin (binop true .Mod) (fApp (fOne (fBin ixW (fVar 0) (fCon (.int 2))) fNil) (g1 intW)) (fApp (fOne (fCon (.int 1)) (fOne (fApp (fOne (fBin ixW (fVar 0) (fCon (.int 1))) fNil) gLen) fNil)) (g2 maxW))))) (sSeq (sIf (fBin (cmpop G0 C0 .GtE) (fVar 2) (fBin (binop true .Pow) (fCon (.int 10)) (fCon (.int 18)))) (sSeq (sSetI (fBin ixW (fVar 0) (fCon (.int 1))) (fBin (binop true .Mod) (fApp (fOne (fBin ixW (fVar 0) (fCon (.int 2))) fNil) (g1 intW)) (fApp (fOne (fBin ixW (fVar 0) (fCon (.int 1))) fNil) gLen)) (fBin (binop true .FloorDiv) (fVar 2) (fVar 1))) (sSeq (sRet (fBin (binop true .Mod) (fApp (fOne (fVar 2) fNil) (g1 intW)) (fVar 1))) sNil)) sNil) (sSeq (sSetI (fVar 0) (fCon (.int 0)) (fBin (binop true .Mod) (fApp (fOne (fBin (binop true .Add) (fBin (binop true .Add) (fBin (binop true .Mult) (fBin ixW (fVar 0) (fCon (.int 0))) (fCon (.int 48271))) (fBin (binop true .Mult) (fVar 2) (fCon (.int 69621)))) (fCon (.int 11))) fNil) (g1 intW)) (fCon (.int 2147483647)))) (sSeq (sSetI (fVar 0) (fCon (.int 2)) (fBin (binop true .Add) (fBin ixW (fVar 0) (fCon (.int 2))) (fCon (.int 1)))) (sSeq (sRet (fBin (binop true .Mod) (fApp (fOne (fBin (binop true .FloorDiv) (fBin ixW (fVar 0) (fCon (.int 0))) (fCon (.int 7))) fNil) (g1 intW)) (fVar 1))) sNil)))))
def u__law_next : List W → Store → Out W := uDef 2 3 fb__law_next
def fb_look_at_thing : FS := (sSeq (sIf (fOr (fNot (fCall false 0 u_is_thing (fOne (fVar 1) fNil))) (fAnd (fBin (cmpop G0 C0 .Eq) (fVar 1) (fCon w_SPARE)) (fBin (cmpop G0 C0 .Is) (fBin ixW (fAttr G0 C0 false "at" (fVar 0)) (fCon (.int 1))) (fCon .non)))) (sSeq sNo sNil) sNil) sNil)
def u_look_at_thing : List W → Store → Out W := uDef 2 2 fb_look_at_thing
def fb_counting : FS := (sSeq (sExp (fCall false 1 u_look_at_thing (fOne (fVar 0) (fOne (fVar 1) fNil)))) (sSeq (sSet (.n 2) (fIfe (fBin (cmpop G0 C0 .Eq) (fVar 1) (fCon w_MAIN)) (fCon (.int 0)) (fCon (.int 1)))) (sSeq (sRet (fCall false 1 u_counting_at (fOne (fAttr G0 C0 false "plan" (fVar 0)) (fOne (fBin ixW (fAttr G0 C0 false "at" (fVar 0)) (fVar 2)) (fOne (fBin ixW (fAttr G0 C0 false "at" (fVar 0)) (fBin (binop true .Add) (fVar 2) (fCon (.int 2)))) fNil))))) sNil)))
def u_counting : List W → Store → Out W := uDef 2 3 fb_counting
def fb_asks : FS := (sSeq (sExp (fCall false 1 u_look_at_thing (fOne (fVar 0) (fOne (fVar 1) fNil)))) (sSeq (sSet (.n 2) (fApp (fOne (fAttr G0 C0 false "persons" (fAttr G0 C0 false "plan" (fVar 0))) fNil) (g1 (listW true)))) (sSeq (sFor (.n 3) (iRa (fBin (binop true .Add) (fApp (fOne (fVar 2) fNil) gLen) (fCon (.int 1)))) (sSeq (sSub (.n 4) (fOne (fVar 2) (fOne (fVar 3) fNil)) (sSeq (sSet (.n 5) (fMake G0 u_Hand___init__ 1 (fOne (fAttr G0 C0 false "plan" (fVar 0)) (fOne (fAttr G0 C0 false "at" (fVar 0)) fNil)))) (sSeq (sFor (.n 6) (iPl (fVar 4)) (sSeq (sExp (fMeth G0 u_Hand_do false 1 "do" (fVar 5) (fOne (fTup (fOne (fCon w_SIGN) (fOne (fVar 6) (fOne (fVar 1) fNil)))) fNil))) sNil)) (sSeq (sIf (fCall false 3 u_is_sent (fOne (fAttr G0 C0 false "plan" (fVar 0)) (fOne (fMeth0 G0 u_Hand_standing false 1 "standing" (fVar 5)) (fOne (fVar 1) fNil)))) (sSeq (sRet (fVar 4)) sNil) sNil) sNil)))) sNil)) (sSeq (sRet (fCon .non)) sNil))))
def u_asks : List W → Store → Out W := uDef 2 7 fb_asks
def C1 : Orc := fun n => match n with
  | 0 => u_Record_notes
  | 1 => u_Record_sent
  | 2 => u_Record_found
  | _ => fun _ _ => .fail
def G1 : Gm := { exf := fun _ => [], cls := fun c => match c with
    | 0 => some { flds := ["needed", "persons", "size", "copy_word", "take_word", "told"], props := [], meths := [("bound", 5)], init := 3 }
    | 1 => some { flds := ["plan", "held", "noted"], props := [], meths := [("standing", 0), ("note", 1), ("put_note", 1), ("can_be", 2), ("do", 4), ("copy_main", 0), ("take", 3), ("taken", 2)], init := 0 }
    | 2 => some { flds := ["plan", "at", "done", "sends", "told_findings"], props := [("notes", 0), ("sent", 1), ("found", 2)], meths := [("take_in", 5)], init := 0 }
    | _ => none }
def fb__law_pieces : FS := (sSeq (sSet (.t [4, 5, 6, 7]) (fVar 0)) (sSeq (sSet (.n 8) (fLst true (fOne (fTup (fOne (fCon (.str "copy")) fNil)) (fOne (fTup (fOne (fCon (.str "write")) (fOne (fCon (.str "spare")) (fOne (fVar 7) (fOne (fCon (.int 1)) fNil))))) (fOne (fTup (fOne (fCon (.str "sign")) (fOne (fVar 4) (fOne (fCon (.str "main")) fNil)))) (fOne (fTup (fOne (fCon (.str "sign")) (fOne (fVar 5) (fOne (fCon (.str "spare")) fNil)))) (fOne (fTup (fOne (fCon (.str "take")) (fOne (fVar 7) fNil))) fNil))))))) (sSeq (sSet (.n 9) (fCall false 6 u_replay (fOne (fCall false 5 u__law_book_of (fOne (fVar 0) (fOne (fVar 1) (fOne (fVar 2) (fOne (fVar 3) fNil))))) (fOne (fBin (binop true .Add) (fVar 8) (fLst true (fOne (fTup (fOne (fCon (.str "send")) (fOne (fCon (.str "main")) fNil))) (fOne (fTup (fOne (fCon (.str "sign")) (fOne (fVar 4) (fOne (fCon (.str "main")) fNil)))) fNil)))) fNil)))) (sSeq (sRet (fLst true (fOne (fAttr G1 C1 false "sent" (fVar 9)) (fOne (fAttr G1 C1 false "found" (fVar 9)) (fOne (fBin ixW (fBin ixW (fBin ixW (fAttr G1 C1 false "notes" (fVar 9)) (fCon (.str "main"))) (fVar 4)) (fCon (.int 0))) (fOne (fBin ixW (fBin ixW (fAttr G1 C1 false "notes" (fVar 9)) (fCon (.str "main"))) (fVar 5)) fNil)))))) sNil))))
def u__law_pieces : List W → Store → Out W := uDef 4 10 fb__law_pieces
def fb_law : FS := (sSeq (sSet (.n 1) (fCall false 0 u__law_mix (fOne (fVar 0) (fOne (fCon (.int 20)) fNil)))) (sSeq (sSet (.n 2) (fBin ixW (fLst true (fOne (fTup (fOne (fCon (.str "a")) (fOne (fCon (.str "b")) (fOne (fCon (.str "x")) (fOne (fCon (.str "y")) fNil))))) (fOne (fTup (fOne (fCon (.str "main")) (fOne (fCon (.str "spare")) (fOne (fCon (.str "copy")) (fOne (fCon (.str "take")) fNil))))) fNil))) (fCall false 0 u__law_next (fOne (fVar 1) (fOne (fCon (.int 2)) fNil))))) (sSeq (sSet (.t [3, 4, 5, 6]) (fVar 2)) (sSeq (sSet (.n 7) (fTup (fOne (fTup (fOne (fCon (.int 0)) (fOne (fCon (.int 1)) fNil))) (fOne (fCon (.bl true)) fNil)))) (sSeq (sSet (.n 8) (fTup (fOne (fTup (fOne (fTup (fOne (fCon .non) (fOne (fCon (.int 1)) fNil))) (fOne (fCon (.bl false)) fNil))) (fOne (fTup (fOne (fCon .non) (fOne (fCon (.int 1)) fNil))) (fOne (fCon .non) fNil))))) (sSeq (sSet (.n 9) (fCall true 7 u__law_pieces (fOne (fVar 2) (fOne (fCon (.str "part")) (fOne (fCon (.str "carry")) (fOne (fCon (.str "carry")) fNil)))))) (sSeq (sIf (fBin (cmpop G1 C1 .NotEq) (fVar 9) (fLst true (fOne (fLst true (fOne (fTup (fOne (fCon (.str "main")) (fOne (fCon (.bl true)) fNil))) fNil)) (fOne (fLst true (fOne (fTup (fOne (fCon (.int 6)) (fOne (fTup (fOne (fCon (.str "pieced")) (fOne (fCon (.str "main")) fNil))) fNil))) fNil)) (fOne (fVar 7) (fOne (fVar 8) fNil)))))) (sSeq (sRet (fCon (.bl false))) sNil) sNil) (sSeq (sSet (.n 9) (fCall true 7 u__law_pieces (fOne (fVar 2) (fOne (fCon (.str "part")) (fOne (fCon (.str "carry")) (fOne (fCon (.str "drop")) fNil)))))) (sSeq (sIf (fBin (cmpop G1 C1 .NotEq) (fVar 9) (fLst true (fOne (fLst true (fOne (fTup (fOne (fCon (.str "main")) (fOne (fCon (.bl false)) fNil))) fNil)) (fOne (fLst true fNil) (fOne (fVar 7) (fOne (fTup (fOne (fCon .non) (fOne (fTup (fOne (fCon .non) (fOne (fCon (.int 1)) fNil))) (fOne (fCon .non) fNil)))) fNil)))))) (sSeq (sRet (fCon (.bl false))) sNil) sNil) (sSeq (sSet (.n 9) (fCall true 7 u__law_pieces (fOne (fVar 2) (fOne (fCon (.str "name")) (fOne (fCon (.str "carry")) (fOne (fCon (.str "drop")) fNil)))))) (sSeq (sIf (fBin (cmpop G1 C1 .NotEq) (fVar 9) (fLst true (fOne (fLst true (fOne (fTup (fOne (fCon (.str "main")) (fOne (fCon (.bl true)) fNil))) fNil)) (fOne (fLst true (fOne (fTup (fOne (fCon (.int 6)) (fOne (fTup (fOne (fCon (.str "pieced")) (fOne (fCon (.str "main")) fNil))) fNil))) fNil)) (fOne (fVar 7) (fOne (fTup (fOne (fCon .non) (fOne (fTup (fOne (fCon .non) (fOne (fCon (.int 1)) fNil))) (fOne (fCon .non) fNil)))) fNil)))))) (sSeq (sRet (fCon (.bl false))) sNil) sNil) (sSeq (sSet (.n 9) (fCall true 7 u__law_pieces (fOne (fVar 2) (fOne (fCon (.str "whole")) (fOne (fCon (.str "carry")) (fOne (fCon (.str "carry")) fNil)))))) (sSeq (sIf (fBin (cmpop G1 C1 .NotEq) (fVar 9) (fLst true (fOne (fLst true (fOne (fTup (fOne (fCon (.str "main")) (fOne (fCon (.bl false)) fNil))) fNil)) (fOne (fLst true (fOne (fTup (fOne (fCon (.int 5)) (fOne (fTup (fOne (fCon (.str "lost")) (fOne (fVar 3) fNil))) fNil))) fNil)) (fOne (fVar 7) (fOne (fVar 8) fNil)))))) (sSeq (sRet (fCon (.bl false))) sNil) sNil) (sSeq (sSet (.n 10) (fCall false 5 u__law_book_of (fOne (fVar 2) (fOne (fCon (.str "edition")) (fOne (fCon (.str "drop")) (fOne (fCon (.str "drop")) fNil)))))) (sSeq (sSet (.n 11) (fLst true (fOne (fTup (fOne (fCon (.str "sign")) (fOne (fVar 3) (fOne (fCon (.str "main")) fNil)))) (fOne (fTup (fOne (fCon (.str "copy")) fNil)) (fOne (fTup (fOne (fCon (.str "write")) (fOne (fCon (.str "main")) (fOne (fVar 5) (fOne (fCon (.int 1)) fNil))))) (fOne (fTup (fOne (fCon (.str "write")) (fOne (fCon (.str "main")) (fOne (fVar 5) (fOne (fCon (.int 0)) fNil))))) (fOne (fTup (fOne (fCon (.str "send")) (fOne (fCon (.str "main")) fNil))) fNil))))))) (sSeq (sSet (.n 12) (fCall false 6 u_replay (fOne (fVar 10) (fOne (fBin (binop true .Add) (fVar 11) (fLst true (fOne (fTup (fOne (fCon (.str "send")) (fOne (fCon (.str "spare")) fNil))) (fOne (fTup (fOne (fCon (.str "unsign")) (fOne (fVar 3) (fOne (fCon (.str "spare")) fNil)))) fNil)))) fNil)))) (sSeq (sSet (.n 13) (fLst true (fOne (fTup (fOne (fCon (.int 3)) (fOne (fTup (fOne (fCon (.str "lost")) (fOne (fVar 3) fNil))) fNil))) (fOne (fTup (fOne (fCon (.int 5)) (fOne (fTup (fOne (fCon (.str "held")) (fOne (fCon (.str "main")) fNil))) fNil))) (fOne (fTup (fOne (fCon (.int 6)) (fOne (fTup (fOne (fCon (.str "held")) (fOne (fCon (.str "spare")) fNil))) fNil))) fNil))))) (sSeq (sIf (fOr (fBin (cmpop G1 C1 .NotEq) (fAttr G1 C1 false "found" (fVar 12)) (fVar 13)) (fBin (cmpop G1 C1 .NotEq) (fAttr G1 C1 false "sent" (fVar 12)) (fLst true (fOne (fTup (fOne (fCon (.str "main")) (fOne (fCon (.bl false)) fNil))) (fOne (fTup (fOne (fCon (.str "spare")) (fOne (fCon (.bl false)) fNil))) fNil))))) (sSeq (sRet (fCon (.bl false))) sNil) sNil) (sSeq (sIf (fOr (fBin (cmpop G1 C1 .NotEq) (fBin ixW (fBin ixW (fAttr G1 C1 false "notes" (fVar 12)) (fCon (.str "spare"))) (fVar 3)) (fTup (fOne (fCon .non) (fOne (fCon .non) (fOne (fCon .non) fNil))))) (fBin (cmpop G1 C1 .NotEq) (fCall false 2 u_counting (fOne (fVar 12) (fOne (fCon (.str "main")) fNil))) (fDict true (dCons (fVar 5) (fTup fNil) (dCons (fVar 6) (fTup fNil) dNil))))) (sSeq (sRet (fCon (.bl false))) sNil) sNil) (sSeq (sSet (.n 14) (fAnd (fBin (cmpop G1 C1 .Eq) (fCall false 5 u_asks (fOne (fVar 12) (fOne (fCon (.str "main")) fNil))) (fTup (fOne (fVar 3) fNil))) (fBin (cmpop G1 C1 .Eq) (fCall false 5 u_asks (fOne (fVar 12) (fOne (fCon (.str "spare")) fNil))) (fTup (fOne (fVar 3) fNil))))) (sSeq (sRet (fAnd (fVar 14) (fBin (cmpop G1 C1 .Eq) (fBin ixW (fBin ixW (fAttr G1 C1 false "notes" (fVar 12)) (fCon (.str "main"))) (fVar 3)) (fTup (fOne (fTup (fOne (fTup (fOne (fCon (.int 0)) (fOne (fCon (.int 0)) fNil))) (fOne (fCon (.bl false)) fNil))) (fOne (fTup (fOne (fCon (.int 0)) (fOne (fCon (.int 0)) fNil))) (fOne (fTup (fOne (fCon (.int 0)) (fOne (fCon (.int 0)) fNil))) fNil))))))) sNil)))))))))))))))))))))
def u_law : List W → Store → Out W := uDef 1 15 fb_law
def fb_law_rest : FS := (sSeq (sSet (.t [3, 4, 5, 6]) (fVar 2)) (sSeq (sSet (.n 7) (fTup (fOne (fTup (fOne (fCon (.int 0)) (fOne (fCon (.int 1)) fNil))) (fOne (fCon (.bl true)) fNil)))) (sSeq (sSet (.n 8) (fTup (fOne (fTup (fOne (fTup (fOne (fCon .non) (fOne (fCon (.int 1)) fNil))) (fOne (fCon (.bl false)) fNil))) (fOne (fTup (fOne (fCon .non) (fOne (fCon (.int 1)) fNil))) (fOne (fCon .non) fNil))))) (sSeq (sSet (.n 9) (fCall true 7 u__law_pieces (fOne (fVar 2) (fOne (fCon (.str "part")) (fOne (fCon (.str "carry")) (fOne (fCon (.str "carry")) fNil)))))) (sSeq (sIf (fBin (cmpop G1 C1 .NotEq) (fVar 9) (fLst true (fOne (fLst true (fOne (fTup (fOne (fCon (.str "main")) (fOne (fCon (.bl true)) fNil))) fNil)) (fOne (fLst true (fOne (fTup (fOne (fCon (.int 6)) (fOne (fTup (fOne (fCon (.str "pieced")) (fOne (fCon (.str "main")) fNil))) fNil))) fNil)) (fOne (fVar 7) (fOne (fVar 8) fNil)))))) (sSeq (sRet (fCon (.bl false))) sNil) sNil) (sSeq (sSet (.n 9) (fCall true 7 u__law_pieces (fOne (fVar 2) (fOne (fCon (.str "part")) (fOne (fCon (.str "carry")) (fOne (fCon (.str "drop")) fNil)))))) (sSeq (sIf (fBin (cmpop G1 C1 .NotEq) (fVar 9) (fLst true (fOne (fLst true (fOne (fTup (fOne (fCon (.str "main")) (fOne (fCon (.bl false)) fNil))) fNil)) (fOne (fLst true fNil) (fOne (fVar 7) (fOne (fTup (fOne (fCon .non) (fOne (fTup (fOne (fCon .non) (fOne (fCon (.int 1)) fNil))) (fOne (fCon .non) fNil)))) fNil)))))) (sSeq (sRet (fCon (.bl false))) sNil) sNil) (sSeq (sSet (.n 9) (fCall true 7 u__law_pieces (fOne (fVar 2) (fOne (fCon (.str "name")) (fOne (fCon (.str "carry")) (fOne (fCon (.str "drop")) fNil)))))) (sSeq (sIf (fBin (cmpop G1 C1 .NotEq) (fVar 9) (fLst true (fOne (fLst true (fOne (fTup (fOne (fCon (.str "main")) (fOne (fCon (.bl true)) fNil))) fNil)) (fOne (fLst true (fOne (fTup (fOne (fCon (.int 6)) (fOne (fTup (fOne (fCon (.str "pieced")) (fOne (fCon (.str "main")) fNil))) fNil))) fNil)) (fOne (fVar 7) (fOne (fTup (fOne (fCon .non) (fOne (fTup (fOne (fCon .non) (fOne (fCon (.int 1)) fNil))) (fOne (fCon .non) fNil)))) fNil)))))) (sSeq (sRet (fCon (.bl false))) sNil) sNil) (sSeq (sSet (.n 9) (fCall true 7 u__law_pieces (fOne (fVar 2) (fOne (fCon (.str "whole")) (fOne (fCon (.str "carry")) (fOne (fCon (.str "carry")) fNil)))))) (sSeq (sIf (fBin (cmpop G1 C1 .NotEq) (fVar 9) (fLst true (fOne (fLst true (fOne (fTup (fOne (fCon (.str "main")) (fOne (fCon (.bl false)) fNil))) fNil)) (fOne (fLst true (fOne (fTup (fOne (fCon (.int 5)) (fOne (fTup (fOne (fCon (.str "lost")) (fOne (fVar 3) fNil))) fNil))) fNil)) (fOne (fVar 7) (fOne (fVar 8) fNil)))))) (sSeq (sRet (fCon (.bl false))) sNil) sNil) (sSeq (sSet (.n 10) (fCall false 5 u__law_book_of (fOne (fVar 2) (fOne (fCon (.str "edition")) (fOne (fCon (.str "drop")) (fOne (fCon (.str "drop")) fNil)))))) (sSeq (sSet (.n 11) (fLst true (fOne (fTup (fOne (fCon (.str "sign")) (fOne (fVar 3) (fOne (fCon (.str "main")) fNil)))) (fOne (fTup (fOne (fCon (.str "copy")) fNil)) (fOne (fTup (fOne (fCon (.str "write")) (fOne (fCon (.str "main")) (fOne (fVar 5) (fOne (fCon (.int 1)) fNil))))) (fOne (fTup (fOne (fCon (.str "write")) (fOne (fCon (.str "main")) (fOne (fVar 5) (fOne (fCon (.int 0)) fNil))))) (fOne (fTup (fOne (fCon (.str "send")) (fOne (fCon (.str "main")) fNil))) fNil))))))) (sSeq (sSet (.n 12) (fCall false 6 u_replay (fOne (fVar 10) (fOne (fBin (binop true .Add) (fVar 11) (fLst true (fOne (fTup (fOne (fCon (.str "send")) (fOne (fCon (.str "spare")) fNil))) (fOne (fTup (fOne (fCon (.str "unsign")) (fOne (fVar 3) (fOne (fCon (.str "spare")) fNil)))) fNil)))) fNil)))) (sSeq (sSet (.n 13) (fLst true (fOne (fTup (fOne (fCon (.int 3)) (fOne (fTup (fOne (fCon (.str "lost")) (fOne (fVar 3) fNil))) fNil))) (fOne (fTup (fOne (fCon (.int 5)) (fOne (fTup (fOne (fCon (.str "held")) (fOne (fCon (.str "main")) fNil))) fNil))) (fOne (fTup (fOne (fCon (.int 6)) (fOne (fTup (fOne (fCon (.str "held")) (fOne (fCon (.str "spare")) fNil))) fNil))) fNil))))) (sSeq (sIf (fOr (fBin (cmpop G1 C1 .NotEq) (fAttr G1 C1 false "found" (fVar 12)) (fVar 13)) (fBin (cmpop G1 C1 .NotEq) (fAttr G1 C1 false "sent" (fVar 12)) (fLst true (fOne (fTup (fOne (fCon (.str "main")) (fOne (fCon (.bl false)) fNil))) (fOne (fTup (fOne (fCon (.str "spare")) (fOne (fCon (.bl false)) fNil))) fNil))))) (sSeq (sRet (fCon (.bl false))) sNil) sNil) (sSeq (sIf (fOr (fBin (cmpop G1 C1 .NotEq) (fBin ixW (fBin ixW (fAttr G1 C1 false "notes" (fVar 12)) (fCon (.str "spare"))) (fVar 3)) (fTup (fOne (fCon .non) (fOne (fCon .non) (fOne (fCon .non) fNil))))) (fBin (cmpop G1 C1 .NotEq) (fCall false 2 u_counting (fOne (fVar 12) (fOne (fCon (.str "main")) fNil))) (fDict true (dCons (fVar 5) (fTup fNil) (dCons (fVar 6) (fTup fNil) dNil))))) (sSeq (sRet (fCon (.bl false))) sNil) sNil) (sSeq (sSet (.n 14) (fAnd (fBin (cmpop G1 C1 .Eq) (fCall false 5 u_asks (fOne (fVar 12) (fOne (fCon (.str "main")) fNil))) (fTup (fOne (fVar 3) fNil))) (fBin (cmpop G1 C1 .Eq) (fCall false 5 u_asks (fOne (fVar 12) (fOne (fCon (.str "spare")) fNil))) (fTup (fOne (fVar 3) fNil))))) (sSeq (sRet (fAnd (fVar 14) (fBin (cmpop G1 C1 .Eq) (fBin ixW (fBin ixW (fAttr G1 C1 false "notes" (fVar 12)) (fCon (.str "main"))) (fVar 3)) (fTup (fOne (fTup (fOne (fTup (fOne (fCon (.int 0)) (fOne (fCon (.int 0)) fNil))) (fOne (fCon (.bl false)) fNil))) (fOne (fTup (fOne (fCon (.int 0)) (fOne (fCon (.int 0)) fNil))) (fOne (fTup (fOne (fCon (.int 0)) (fOne (fCon (.int 0)) fNil))) fNil))))))) sNil)))))))))))))))))))
def fb_law_tail : FS := (sSeq (sSet (.n 10) (fCall false 5 u__law_book_of (fOne (fVar 2) (fOne (fCon (.str "edition")) (fOne (fCon (.str "drop")) (fOne (fCon (.str "drop")) fNil)))))) (sSeq (sSet (.n 11) (fLst true (fOne (fTup (fOne (fCon (.str "sign")) (fOne (fVar 3) (fOne (fCon (.str "main")) fNil)))) (fOne (fTup (fOne (fCon (.str "copy")) fNil)) (fOne (fTup (fOne (fCon (.str "write")) (fOne (fCon (.str "main")) (fOne (fVar 5) (fOne (fCon (.int 1)) fNil))))) (fOne (fTup (fOne (fCon (.str "write")) (fOne (fCon (.str "main")) (fOne (fVar 5) (fOne (fCon (.int 0)) fNil))))) (fOne (fTup (fOne (fCon (.str "send")) (fOne (fCon (.str "main")) fNil))) fNil))))))) (sSeq (sSet (.n 12) (fCall false 6 u_replay (fOne (fVar 10) (fOne (fBin (binop true .Add) (fVar 11) (fLst true (fOne (fTup (fOne (fCon (.str "send")) (fOne (fCon (.str "spare")) fNil))) (fOne (fTup (fOne (fCon (.str "unsign")) (fOne (fVar 3) (fOne (fCon (.str "spare")) fNil)))) fNil)))) fNil)))) (sSeq (sSet (.n 13) (fLst true (fOne (fTup (fOne (fCon (.int 3)) (fOne (fTup (fOne (fCon (.str "lost")) (fOne (fVar 3) fNil))) fNil))) (fOne (fTup (fOne (fCon (.int 5)) (fOne (fTup (fOne (fCon (.str "held")) (fOne (fCon (.str "main")) fNil))) fNil))) (fOne (fTup (fOne (fCon (.int 6)) (fOne (fTup (fOne (fCon (.str "held")) (fOne (fCon (.str "spare")) fNil))) fNil))) fNil))))) (sSeq (sIf (fOr (fBin (cmpop G1 C1 .NotEq) (fAttr G1 C1 false "found" (fVar 12)) (fVar 13)) (fBin (cmpop G1 C1 .NotEq) (fAttr G1 C1 false "sent" (fVar 12)) (fLst true (fOne (fTup (fOne (fCon (.str "main")) (fOne (fCon (.bl false)) fNil))) (fOne (fTup (fOne (fCon (.str "spare")) (fOne (fCon (.bl false)) fNil))) fNil))))) (sSeq (sRet (fCon (.bl false))) sNil) sNil) (sSeq (sIf (fOr (fBin (cmpop G1 C1 .NotEq) (fBin ixW (fBin ixW (fAttr G1 C1 false "notes" (fVar 12)) (fCon (.str "spare"))) (fVar 3)) (fTup (fOne (fCon .non) (fOne (fCon .non) (fOne (fCon .non) fNil))))) (fBin (cmpop G1 C1 .NotEq) (fCall false 2 u_counting (fOne (fVar 12) (fOne (fCon (.str "main")) fNil))) (fDict true (dCons (fVar 5) (fTup fNil) (dCons (fVar 6) (fTup fNil) dNil))))) (sSeq (sRet (fCon (.bl false))) sNil) sNil) (sSeq (sSet (.n 14) (fAnd (fBin (cmpop G1 C1 .Eq) (fCall false 5 u_asks (fOne (fVar 12) (fOne (fCon (.str "main")) fNil))) (fTup (fOne (fVar 3) fNil))) (fBin (cmpop G1 C1 .Eq) (fCall false 5 u_asks (fOne (fVar 12) (fOne (fCon (.str "spare")) fNil))) (fTup (fOne (fVar 3) fNil))))) (sSeq (sRet (fAnd (fVar 14) (fBin (cmpop G1 C1 .Eq) (fBin ixW (fBin ixW (fAttr G1 C1 false "notes" (fVar 12)) (fCon (.str "main"))) (fVar 3)) (fTup (fOne (fTup (fOne (fTup (fOne (fCon (.int 0)) (fOne (fCon (.int 0)) fNil))) (fOne (fCon (.bl false)) fNil))) (fOne (fTup (fOne (fCon (.int 0)) (fOne (fCon (.int 0)) fNil))) (fOne (fTup (fOne (fCon (.int 0)) (fOne (fCon (.int 0)) fNil))) fNil))))))) sNil))))))))
def restF (c1 c2 c3 c4 : List W → Store → Out W) (T : FS) : FS := (sSeq (sSet (.t [3, 4, 5, 6]) (fVar 2)) (sSeq (sSet (.n 7) (fTup (fOne (fTup (fOne (fCon (.int 0)) (fOne (fCon (.int 1)) fNil))) (fOne (fCon (.bl true)) fNil)))) (sSeq (sSet (.n 8) (fTup (fOne (fTup (fOne (fTup (fOne (fCon .non) (fOne (fCon (.int 1)) fNil))) (fOne (fCon (.bl false)) fNil))) (fOne (fTup (fOne (fCon .non) (fOne (fCon (.int 1)) fNil))) (fOne (fCon .non) fNil))))) (sSeq (sSet (.n 9) (fApp (fOne (fVar 2) (fOne (fCon (.str "part")) (fOne (fCon (.str "carry")) (fOne (fCon (.str "carry")) fNil)))) c1)) (sSeq (sIf (fBin (cmpop G1 C1 .NotEq) (fVar 9) (fLst true (fOne (fLst true (fOne (fTup (fOne (fCon (.str "main")) (fOne (fCon (.bl true)) fNil))) fNil)) (fOne (fLst true (fOne (fTup (fOne (fCon (.int 6)) (fOne (fTup (fOne (fCon (.str "pieced")) (fOne (fCon (.str "main")) fNil))) fNil))) fNil)) (fOne (fVar 7) (fOne (fVar 8) fNil)))))) (sSeq (sRet (fCon (.bl false))) sNil) sNil) (sSeq (sSet (.n 9) (fApp (fOne (fVar 2) (fOne (fCon (.str "part")) (fOne (fCon (.str "carry")) (fOne (fCon (.str "drop")) fNil)))) c2)) (sSeq (sIf (fBin (cmpop G1 C1 .NotEq) (fVar 9) (fLst true (fOne (fLst true (fOne (fTup (fOne (fCon (.str "main")) (fOne (fCon (.bl false)) fNil))) fNil)) (fOne (fLst true fNil) (fOne (fVar 7) (fOne (fTup (fOne (fCon .non) (fOne (fTup (fOne (fCon .non) (fOne (fCon (.int 1)) fNil))) (fOne (fCon .non) fNil)))) fNil)))))) (sSeq (sRet (fCon (.bl false))) sNil) sNil) (sSeq (sSet (.n 9) (fApp (fOne (fVar 2) (fOne (fCon (.str "name")) (fOne (fCon (.str "carry")) (fOne (fCon (.str "drop")) fNil)))) c3)) (sSeq (sIf (fBin (cmpop G1 C1 .NotEq) (fVar 9) (fLst true (fOne (fLst true (fOne (fTup (fOne (fCon (.str "main")) (fOne (fCon (.bl true)) fNil))) fNil)) (fOne (fLst true (fOne (fTup (fOne (fCon (.int 6)) (fOne (fTup (fOne (fCon (.str "pieced")) (fOne (fCon (.str "main")) fNil))) fNil))) fNil)) (fOne (fVar 7) (fOne (fTup (fOne (fCon .non) (fOne (fTup (fOne (fCon .non) (fOne (fCon (.int 1)) fNil))) (fOne (fCon .non) fNil)))) fNil)))))) (sSeq (sRet (fCon (.bl false))) sNil) sNil) (sSeq (sSet (.n 9) (fApp (fOne (fVar 2) (fOne (fCon (.str "whole")) (fOne (fCon (.str "carry")) (fOne (fCon (.str "carry")) fNil)))) c4)) (sSeq (sIf (fBin (cmpop G1 C1 .NotEq) (fVar 9) (fLst true (fOne (fLst true (fOne (fTup (fOne (fCon (.str "main")) (fOne (fCon (.bl false)) fNil))) fNil)) (fOne (fLst true (fOne (fTup (fOne (fCon (.int 5)) (fOne (fTup (fOne (fCon (.str "lost")) (fOne (fVar 3) fNil))) fNil))) fNil)) (fOne (fVar 7) (fOne (fVar 8) fNil)))))) (sSeq (sRet (fCon (.bl false))) sNil) sNil) T)))))))))))
end Ms
set_option Elab.async false
set_option linter.all false
set_option maxRecDepth 100000
set_option maxHeartbeats 4000000
namespace Ms
open PySem PySem.Spec PyProof.Rows L2 Mp Mg
theorem sc_Record_notes : FnScope ["self", "found"] ["self"] (defScope s_Record_notes) := ⟨rfl, rfl, rfl, by decide +kernel, rfl, by decide +kernel, by decide +kernel⟩
theorem b_Record_notes {F : Fx} {P : Program} {w : World} {K : PySem.W.Frag} {mg : Str → Option Value} {base : Heap} {stk : List Env} {a : Addr} {cdv : Value} {A : Around} {s : Shared} {H : Hp} (z : Cz F WN G0 C0 0 (pR P w K mg base stk ["self", "found"] "Record.notes" (defScope s_Record_notes) a cdv A s H)) (k_MAIN : GVal F mg "MAIN" w_MAIN) (k_SPARE : GVal F mg "SPARE" w_SPARE) (n_dict : mg "dict" = none) (n_zip : mg "zip" = none) :
    PSs (pR P w K mg base stk ["self", "found"] "Record.notes" (defScope s_Record_notes) a cdv A s H) (defBody s_Record_notes) (tS F WN fb_Record_notes) := by
  unfold fb_Record_notes
  exact (p_sCons (p_sSet (p_dict z false (p_kv (p_glo k_MAIN) (p_dz z true n_dict n_zip (p_fld z noP0 (p_fld z noP0 (p_var 0))) (p_ix z (p_fld z noP0 (p_var 0)) p_int)) p_kNil)) (p_tN z 1)) (p_sCons (p_sIf (q_cmp z (p_ix z (p_fld z noP0 (p_var 0)) p_int) p_non) (p_sCons (p_sSetI z (p_dz z true n_dict n_zip (p_fld z noP0 (p_fld z noP0 (p_var 0))) (p_ix z (p_fld z noP0 (p_var 0)) p_int)) (p_var 1) (p_glo k_SPARE)) p_sNil) p_sNil) (p_sCons (p_sRet (p_var 1)) p_sNil)))
theorem sc_Record___init__ : FnScope ["self", "book", "standing"] ["self", "book", "standing"] (defScope s_Record___init__) := ⟨rfl, rfl, rfl, by decide +kernel, rfl, by decide +kernel, by decide +kernel⟩
theorem b_Record___init__ {F : Fx} {P : Program} {w : World} {K : PySem.W.Frag} {mg : Str → Option Value} {base : Heap} {stk : List Env} {a : Addr} {cdv : Value} {A : Around} {s : Shared} {H : Hp} (z : Cz F WN G0 C0 0 (pR P w K mg base stk ["self", "book", "standing"] "Record.__init__" (defScope s_Record___init__) a cdv A s H))  :
    PSs (pR P w K mg base stk ["self", "book", "standing"] "Record.__init__" (defScope s_Record___init__) a cdv A s H) (defBody s_Record___init__) (tS F WN fb_Record___init__) := by
  unfold fb_Record___init__
  exact (p_sCons (p_sSetA z (p_var 1) (p_var 0)) (p_sCons (p_sSetA z (p_var 2) (p_var 0)) (p_sCons (p_sSetA z (p_lst false p_nil) (p_var 0)) (p_sCons (p_sSetA z (p_lst false p_nil) (p_var 0)) (p_sCons (p_sSetA z (p_lst false p_nil) (p_var 0)) p_sNil)))))
theorem sc_counting_at : FnScope ["book", "contents", "notes", "found", "index", "part", "some", "person", "note", "binding", "rights"] ["book", "contents", "notes"] (defScope s_counting_at) := ⟨rfl, rfl, rfl, by decide +kernel, rfl, by decide +kernel, by decide +kernel⟩
theorem b_counting_at {F : Fx} {P : Program} {w : World} {K : PySem.W.Frag} {mg : Str → Option Value} {base : Heap} {stk : List Env} {a : Addr} {cdv : Value} {A : Around} {s : Shared} {H : Hp} (z : Cz F WN G0 C0 1 (pR P w K mg base stk ["book", "contents", "notes", "found", "index", "part", "some", "person", "note", "binding", "rights"] "counting_at" (defScope s_counting_at) a cdv A s H)) (c_does_count : CalN F P w K mg base u_does_count 0 4 "does_count") (n_enumerate : mg "enumerate" = none) (n_tuple : mg "tuple" = none) (n_zip : mg "zip" = none) :
    PSs (pR P w K mg base stk ["book", "contents", "notes", "found", "index", "part", "some", "person", "note", "binding", "rights"] "counting_at" (defScope s_counting_at) a cdv A s H) (defBody s_counting_at) (tS F WN fb_counting_at) := by
  unfold fb_counting_at
  exact (p_sCons (p_sSet (p_dict0 z false) (p_tN z 3)) (p_sCons (p_sFor z (p_iEn z rfl n_enumerate (p_fld z noP0 (p_var 0))) (p_tT z (p_gN z 4 ⟨rfl, by first | exact Or.inl rfl | exact Or.inr rfl, by first | exact Or.inl rfl | exact Or.inr rfl⟩ (p_gN z 5 ⟨rfl, by first | exact Or.inl rfl | exact Or.inr rfl, by first | exact Or.inl rfl | exact Or.inr rfl⟩ p_gNil))) (p_sCons (p_sSet (p_lst false p_nil) (p_tN z 6)) (p_sCons (p_sFor z (p_iZi z rfl n_zip (p_fld z noP0 (p_var 0)) (p_var 2)) (p_tT z (p_gN z 7 ⟨rfl, by first | exact Or.inl rfl | exact Or.inr rfl, by first | exact Or.inl rfl | exact Or.inr rfl⟩ (p_gN z 8 ⟨rfl, by first | exact Or.inl rfl | exact Or.inr rfl, by first | exact Or.inl rfl | exact Or.inr rfl⟩ p_gNil))) (p_sCons (p_sSet (p_ix z (p_fld z noP0 (p_var 0)) (p_var 7)) (p_tT z (p_gN z 9 ⟨rfl, by first | exact Or.inl rfl | exact Or.inr rfl, by first | exact Or.inl rfl | exact Or.inr rfl⟩ (p_gN z 10 ⟨rfl, by first | exact Or.inl rfl | exact Or.inr rfl, by first | exact Or.inl rfl | exact Or.inr rfl⟩ p_gNil)))) (p_sCons (p_sIf (PW.pt (q_and (q_cmp z (p_var 5) (p_var 10)) (q_and1 (q_val (p_callN z c_does_count (p_arg (p_var 9) (p_arg (p_ix z (p_var 8) p_int) (p_arg (p_var 1) (p_arg (p_var 4) p_nil))))))))) (p_sCons (p_sExp (p_append z (p_var 6) (p_arg (p_var 7) p_nil))) p_sNil) p_sNil) p_sNil))) (p_sCons (p_sSetI z (b_tuple z n_tuple (p_var 6)) (p_var 3) (p_var 5)) p_sNil)))) (p_sCons (p_sRet (p_var 3)) p_sNil)))
theorem sc_is_sent : FnScope ["book", "standing", "thing", "at"] ["book", "standing", "thing"] (defScope s_is_sent) := ⟨rfl, rfl, rfl, by decide +kernel, rfl, by decide +kernel, by decide +kernel⟩
theorem b_is_sent {F : Fx} {P : Program} {w : World} {K : PySem.W.Frag} {mg : Str → Option Value} {base : Heap} {stk : List Env} {a : Addr} {cdv : Value} {A : Around} {s : Shared} {H : Hp} (z : Cz F WN G0 C0 3 (pR P w K mg base stk ["book", "standing", "thing", "at"] "is_sent" (defScope s_is_sent) a cdv A s H)) (c_goes_out : CalN F P w K mg base u_goes_out 2 3 "goes_out") (k_MAIN : GVal F mg "MAIN" w_MAIN) :
    PSs (pR P w K mg base stk ["book", "standing", "thing", "at"] "is_sent" (defScope s_is_sent) a cdv A s H) (defBody s_is_sent) (tS F WN fb_is_sent) := by
  unfold fb_is_sent
  exact (p_sCons (p_sSet (p_ife (q_cmp z (p_var 2) (p_glo k_MAIN)) p_int p_int) (p_tN z 3)) (p_sCons (p_sRet (p_callN z c_goes_out (p_arg (p_var 0) (p_arg (p_ix z (p_var 1) (p_var 3)) (p_arg (p_ix z (p_var 1) (p_bin z true (p_var 3) p_int)) p_nil))))) p_sNil))
theorem sc_is_integer : FnScope ["value"] ["value"] (defScope s_is_integer) := ⟨rfl, rfl, rfl, by decide +kernel, rfl, by decide +kernel, by decide +kernel⟩
theorem b_is_integer {F : Fx} {P : Program} {w : World} {K : PySem.W.Frag} {mg : Str → Option Value} {base : Heap} {stk : List Env} {a : Addr} {cdv : Value} {A : Around} {s : Shared} {H : Hp} (z : Cz F WN G0 C0 0 (pR P w K mg base stk ["value"] "is_integer" (defScope s_is_integer) a cdv A s H)) (n_bool : mg "bool" = none) (n_int : mg "int" = none) (n_isinstance : mg "isinstance" = none) :
    PSs (pR P w K mg base stk ["value"] "is_integer" (defScope s_is_integer) a cdv A s H) (defBody s_is_integer) (tS F WN fb_is_integer) := by
  unfold fb_is_integer
  exact (p_sCons (p_sRet (p_and (p_isB z .int (by intro c h; cases h) n_isinstance n_int bt_int (p_var 0)) (p_one (p_not (p_isB z .bool (by intro c h; cases h) n_isinstance n_bool bt_bool (p_var 0)))))) p_sNil)
theorem sc_index_of : FnScope ["names", "name"] ["names", "name"] (defScope s_index_of) := ⟨rfl, rfl, rfl, by decide +kernel, rfl, by decide +kernel, by decide +kernel⟩
theorem b_index_of {F : Fx} {P : Program} {w : World} {K : PySem.W.Frag} {mg : Str → Option Value} {base : Heap} {stk : List Env} {a : Addr} {cdv : Value} {A : Around} {s : Shared} {H : Hp} (z : Cz F WN G0 C0 0 (pR P w K mg base stk ["names", "name"] "index_of" (defScope s_index_of) a cdv A s H)) (n_list : mg "list" = none) :
    PSs (pR P w K mg base stk ["names", "name"] "index_of" (defScope s_index_of) a cdv A s H) (defBody s_index_of) (tS F WN fb_index_of) := by
  unfold fb_index_of
  exact (p_sCons (p_sRet (p_index z (b_list z true n_list (p_var 0)) (p_arg (p_var 1) p_nil))) p_sNil)
theorem sc_Hand_taken : FnScope ["self", "note", "other", "index", "signature", "seen", "meant", "many", "own", "sheet"] ["self", "note", "other", "index"] (defScope s_Hand_taken) := ⟨rfl, rfl, rfl, by decide +kernel, rfl, by decide +kernel, by decide +kernel⟩
theorem b_Hand_taken {F : Fx} {P : Program} {w : World} {K : PySem.W.Frag} {mg : Str → Option Value} {base : Heap} {stk : List Env} {a : Addr} {cdv : Value} {A : Around} {s : Shared} {H : Hp} (z : Cz F WN G0 C0 2 (pR P w K mg base stk ["self", "note", "other", "index", "signature", "seen", "meant", "many", "own", "sheet"] "Hand.taken" (defScope s_Hand_taken) a cdv A s H)) (c_put_together : CalN F P w K mg base u_put_together 1 4 "put_together") (c_stale : CalN F P w K mg base u_stale 0 1 "stale") (n_len : mg "len" = none) :
    PSs (pR P w K mg base stk ["self", "note", "other", "index", "signature", "seen", "meant", "many", "own", "sheet"] "Hand.taken" (defScope s_Hand_taken) a cdv A s H) (defBody s_Hand_taken) (tS F WN fb_Hand_taken) := by
  unfold fb_Hand_taken
  exact (p_sCons (p_sSet (p_callN z c_stale (p_arg (p_var 1) p_nil)) (p_tT z (p_gN z 4 ⟨rfl, by first | exact Or.inl rfl | exact Or.inr rfl, by first | exact Or.inl rfl | exact Or.inr rfl⟩ (p_gN z 5 ⟨rfl, by first | exact Or.inl rfl | exact Or.inr rfl, by first | exact Or.inl rfl | exact Or.inr rfl⟩ (p_gN z 6 ⟨rfl, by first | exact Or.inl rfl | exact Or.inr rfl, by first | exact Or.inl rfl | exact Or.inr rfl⟩ p_gNil))))) (p_sCons (p_sSet (b_len z n_len (p_fld z noP0 (p_fld z noP0 (p_var 0)))) (p_tN z 7)) (p_sCons (p_sSet (p_callN z c_put_together (p_arg (p_var 5) (p_arg (p_var 3) (p_arg (p_ife (q_cmp z (p_ix z (p_var 2) p_int) p_non) p_non (p_ix z (p_ix z (p_var 2) p_int) (p_var 3))) (p_arg (p_var 7) p_nil))))) (p_tN z 5)) (p_sCons (p_sIf (q_cmp z (p_fld z noP0 (p_fld z noP0 (p_var 0))) p_str) (p_sCons (p_sSet (p_ife (q_cmp z (p_var 4) p_non) p_non (p_ix z (p_var 4) p_int)) (p_tN z 8)) (p_sCons (p_sSet (p_callN z c_put_together (p_arg (p_var 8) (p_arg (p_var 3) (p_arg (p_ife (q_cmp z (p_ix z (p_var 2) p_int) p_non) p_non (p_ix z (p_ix z (p_ix z (p_var 2) p_int) p_int) (p_var 3))) (p_arg (p_var 7) p_nil))))) (p_tN z 9)) (p_sCons (p_sSet (p_ife (q_cmp z (p_var 9) p_non) p_non (p_tup (p_arg (p_var 9) (p_arg p_bl p_nil)))) (p_tN z 4)) p_sNil))) p_sNil) (p_sCons (p_sRet (p_tup (p_arg (p_var 4) (p_arg (p_var 5) (p_arg (p_var 6) p_nil))))) p_sNil)))))
theorem sc_Hand_standing : FnScope ["self"] ["self"] (defScope s_Hand_standing) := ⟨rfl, rfl, rfl, by decide +kernel, rfl, by decide +kernel, by decide +kernel⟩
theorem b_Hand_standing {F : Fx} {P : Program} {w : World} {K : PySem.W.Frag} {mg : Str → Option Value} {base : Heap} {stk : List Env} {a : Addr} {cdv : Value} {A : Around} {s : Shared} {H : Hp} (z : Cz F WN G0 C0 0 (pR P w K mg base stk ["self"] "Hand.standing" (defScope s_Hand_standing) a cdv A s H)) (k_MAIN : GVal F mg "MAIN" w_MAIN) (k_SPARE : GVal F mg "SPARE" w_SPARE) :
    PSs (pR P w K mg base stk ["self"] "Hand.standing" (defScope s_Hand_standing) a cdv A s H) (defBody s_Hand_standing) (tS F WN fb_Hand_standing) := by
  unfold fb_Hand_standing
  exact (p_sCons (p_sRet (p_tup (p_arg (p_ix z (p_fld z noP0 (p_var 0)) (p_glo k_MAIN)) (p_arg (p_ix z (p_fld z noP0 (p_var 0)) (p_glo k_SPARE)) (p_arg (p_ix z (p_fld z noP0 (p_var 0)) (p_glo k_MAIN)) (p_arg (p_ix z (p_fld z noP0 (p_var 0)) (p_glo k_SPARE)) p_nil)))))) p_sNil)
theorem sc_replay : FnScope ["book", "deeds", "record", "index", "deed", "later"] ["book", "deeds"] (defScope s_replay) := ⟨rfl, rfl, rfl, by decide +kernel, rfl, by decide +kernel, by decide +kernel⟩
theorem b_replay {F : Fx} {P : Program} {w : World} {K : PySem.W.Frag} {mg : Str → Option Value} {base : Heap} {stk : List Env} {a : Addr} {cdv : Value} {A : Around} {s : Shared} {H : Hp} (z : Cz F WN G0 C0 6 (pR P w K mg base stk ["book", "deeds", "record", "index", "deed", "later"] "replay" (defScope s_replay) a cdv A s H)) (c_first_standing : CalN F P w K mg base u_first_standing 0 1 "first_standing") (c_is_deed : CalN F P w K mg base u_is_deed 1 2 "is_deed") (c_led_to : CalN F P w K mg base u_led_to 5 3 "led_to") (m_Record : MakeN F P w K mg base u_Record___init__ G0 2 0 2 "Record") (n_enumerate : mg "enumerate" = none) (t_Record_take_in : MethN F P w K mg base u_Record_take_in G0 2 "take_in" 5 3) :
    PSs (pR P w K mg base stk ["book", "deeds", "record", "index", "deed", "later"] "replay" (defScope s_replay) a cdv A s H) (defBody s_replay) (tS F WN fb_replay) := by
  unfold fb_replay
  exact (p_sCons (p_sSet (p_makeN z m_Record (p_arg (p_var 0) (p_arg (p_callN z c_first_standing (p_arg (p_var 0) p_nil)) p_nil))) (p_tN z 2)) (p_sCons (p_sFor z (p_iEn z rfl n_enumerate (p_var 1)) (p_tT z (p_gN z 3 ⟨rfl, by first | exact Or.inl rfl | exact Or.inr rfl, by first | exact Or.inl rfl | exact Or.inr rfl⟩ (p_gN z 4 ⟨rfl, by first | exact Or.inl rfl | exact Or.inr rfl, by first | exact Or.inl rfl | exact Or.inr rfl⟩ p_gNil))) (p_sCons (p_sSet (p_ife (q_val (p_callN z c_is_deed (p_arg (p_var 0) (p_arg (p_var 4) p_nil)))) (p_callN z c_led_to (p_arg (p_var 0) (p_arg (p_fld z noP0 (p_var 2)) (p_arg (p_var 4) p_nil)))) p_non) (p_tN z 5)) (p_sCons (p_sIf (q_cmp z (p_var 5) p_non) (p_sCons p_sNo p_sNil) p_sNil) (p_sCons (p_sExp (p_methN z t_Record_take_in (p_var 2) (p_arg (p_var 4) (p_arg (p_var 5) p_nil)))) p_sNil)))) (p_sCons (p_sRet (p_var 2)) p_sNil)))
theorem sc_is_name : FnScope ["value", "sign"] ["value"] (defScope s_is_name) := ⟨rfl, rfl, rfl, by decide +kernel, rfl, by decide +kernel, by decide +kernel⟩
theorem b_is_name {F : Fx} {P : Program} {w : World} {K : PySem.W.Frag} {mg : Str → Option Value} {base : Heap} {stk : List Env} {a : Addr} {cdv : Value} {A : Around} {s : Shared} {H : Hp} (z : Cz F WN G0 C0 0 (pR P w K mg base stk ["value", "sign"] "is_name" (defScope s_is_name) a cdv A s H)) (k_LETTERS : GVal F mg "LETTERS" w_LETTERS) (k_MOST_NAME : GVal F mg "MOST_NAME" w_MOST_NAME) (n_all : mg "all" = none) (n_isinstance : mg "isinstance" = none) (n_len : mg "len" = none) (n_str : mg "str" = none) :
    PSs (pR P w K mg base stk ["value", "sign"] "is_name" (defScope s_is_name) a cdv A s H) (defBody s_is_name) (tS F WN fb_is_name) := by
  unfold fb_is_name
  exact (p_sCons (p_sRet (p_and (p_isB z .str (by intro c h; cases h) n_isinstance n_str bt_str (p_var 0)) (p_and (p_ch op_le op_le p_int (b_len z n_len (p_var 0)) (p_glo k_MOST_NAME)) (p_one (b_all z n_all (p_lc z true [("sign", 1)] (p_iPl z (p_var 0)) (blkOk_by (by kernel_rfl)) (by decide) (fun _ _ _ _ _ => (p_tN (z.blk) 1)) (fun _ _ _ _ _ => p_ifs0) (fun _ _ _ _ _ => (p_cmp (z.blk) (p_var 1) (p_glo k_LETTERS))))))))) p_sNil)
theorem sc__law_book_of : FnScope ["_law_n", "_law_binding", "_law_copying", "_law_taking", "_law_a", "_law_b", "_law_x", "_law_y", "_law_people"] ["_law_n", "_law_binding", "_law_copying", "_law_taking"] (defScope s__law_book_of) := ⟨rfl, rfl, rfl, by decide +kernel, rfl, by decide +kernel, by decide +kernel⟩
theorem b__law_book_of {F : Fx} {P : Program} {w : World} {K : PySem.W.Frag} {mg : Str → Option Value} {base : Heap} {stk : List Env} {a : Addr} {cdv : Value} {A : Around} {s : Shared} {H : Hp} (z : Cz F WN G0 C0 5 (pR P w K mg base stk ["_law_n", "_law_binding", "_law_copying", "_law_taking", "_law_a", "_law_b", "_law_x", "_law_y", "_law_people"] "_law_book_of" (defScope s__law_book_of) a cdv A s H)) (m_Book : MakeN F P w K mg base u_Book___init__ G0 0 3 6 "Book") :
    PSs (pR P w K mg base stk ["_law_n", "_law_binding", "_law_copying", "_law_taking", "_law_a", "_law_b", "_law_x", "_law_y", "_law_people"] "_law_book_of" (defScope s__law_book_of) a cdv A s H) (defBody s__law_book_of) (tS F WN fb__law_book_of) := by
  unfold fb__law_book_of
  exact (p_sCons (p_sSet (p_var 0) (p_tT z (p_gN z 4 ⟨rfl, by first | exact Or.inl rfl | exact Or.inr rfl, by first | exact Or.inl rfl | exact Or.inr rfl⟩ (p_gN z 5 ⟨rfl, by first | exact Or.inl rfl | exact Or.inr rfl, by first | exact Or.inl rfl | exact Or.inr rfl⟩ (p_gN z 6 ⟨rfl, by first | exact Or.inl rfl | exact Or.inr rfl, by first | exact Or.inl rfl | exact Or.inr rfl⟩ (p_gN z 7 ⟨rfl, by first | exact Or.inl rfl | exact Or.inr rfl, by first | exact Or.inl rfl | exact Or.inr rfl⟩ p_gNil)))))) (p_sCons (p_sSet (p_dict z true (p_kv (p_var 4) (p_tup (p_arg (p_var 1) (p_arg (p_tup (p_arg (p_var 6) (p_arg (p_var 7) p_nil))) p_nil))) (p_kv (p_var 5) (p_tup (p_arg (p_var 1) (p_arg (p_tup (p_arg (p_var 7) p_nil)) p_nil))) p_kNil))) (p_tN z 8)) (p_sCons (p_sRet (p_makeN z m_Book (p_arg (p_dict z true (p_kv (p_var 6) p_int (p_kv (p_var 7) p_int p_kNil))) (p_arg (p_var 8) (p_arg p_int (p_arg (p_var 2) (p_arg (p_var 3) (p_arg (p_tup (p_arg p_str (p_arg p_str (p_arg p_str (p_arg p_str p_nil))))) p_nil)))))))) p_sNil)))
end Ms
set_option Elab.async false
set_option linter.all false
set_option maxRecDepth 100000
set_option maxHeartbeats 4000000
namespace Ms
open PySem PySem.Spec PyProof.Rows L2 Mp Mg
theorem sc_Record_sent : FnScope ["self"] ["self"] (defScope s_Record_sent) := ⟨rfl, rfl, rfl, by decide +kernel, rfl, by decide +kernel, by decide +kernel⟩
theorem b_Record_sent {F : Fx} {P : Program} {w : World} {K : PySem.W.Frag} {mg : Str → Option Value} {base : Heap} {stk : List Env} {a : Addr} {cdv : Value} {A : Around} {s : Shared} {H : Hp} (z : Cz F WN G0 C0 1 (pR P w K mg base stk ["self"] "Record.sent" (defScope s_Record_sent) a cdv A s H)) (n_list : mg "list" = none) :
    PSs (pR P w K mg base stk ["self"] "Record.sent" (defScope s_Record_sent) a cdv A s H) (defBody s_Record_sent) (tS F WN fb_Record_sent) := by
  unfold fb_Record_sent
  exact (p_sCons (p_sRet (b_list z true n_list (p_fld z noP0 (p_var 0)))) p_sNil)
theorem sc_first_standing : FnScope ["book"] ["book"] (defScope s_first_standing) := ⟨rfl, rfl, rfl, by decide +kernel, rfl, by decide +kernel, by decide +kernel⟩
theorem b_first_standing {F : Fx} {P : Program} {w : World} {K : PySem.W.Frag} {mg : Str → Option Value} {base : Heap} {stk : List Env} {a : Addr} {cdv : Value} {A : Around} {s : Shared} {H : Hp} (z : Cz F WN G0 C0 0 (pR P w K mg base stk ["book"] "first_standing" (defScope s_first_standing) a cdv A s H)) (k_NOTHING : GVal F mg "NOTHING" w_NOTHING) (n_len : mg "len" = none) :
    PSs (pR P w K mg base stk ["book"] "first_standing" (defScope s_first_standing) a cdv A s H) (defBody s_first_standing) (tS F WN fb_first_standing) := by
  unfold fb_first_standing
  exact (p_sCons (p_sRet (p_tup (p_arg (p_bin z true (p_tup (p_arg p_int p_nil)) (b_len z n_len (p_fld z noP0 (p_var 0)))) (p_arg p_non (p_arg (p_bin z true (p_tup (p_arg (p_glo k_NOTHING) p_nil)) (b_len z n_len (p_fld z noP0 (p_var 0)))) (p_arg p_non p_nil)))))) p_sNil)
theorem sc_goes_out : FnScope ["book", "contents", "notes"] ["book", "contents", "notes"] (defScope s_goes_out) := ⟨rfl, rfl, rfl, by decide +kernel, rfl, by decide +kernel, by decide +kernel⟩
theorem b_goes_out {F : Fx} {P : Program} {w : World} {K : PySem.W.Frag} {mg : Str → Option Value} {base : Heap} {stk : List Env} {a : Addr} {cdv : Value} {A : Around} {s : Shared} {H : Hp} (z : Cz F WN G0 C0 2 (pR P w K mg base stk ["book", "contents", "notes"] "goes_out" (defScope s_goes_out) a cdv A s H)) (c_counting_at : CalN F P w K mg base u_counting_at 1 3 "counting_at") (c_has_enough : CalN F P w K mg base u_has_enough 0 2 "has_enough") :
    PSs (pR P w K mg base stk ["book", "contents", "notes"] "goes_out" (defScope s_goes_out) a cdv A s H) (defBody s_goes_out) (tS F WN fb_goes_out) := by
  unfold fb_goes_out
  exact (p_sCons (p_sRet (p_callN z c_has_enough (p_arg (p_var 0) (p_arg (p_callN z c_counting_at (p_arg (p_var 0) (p_arg (p_var 1) (p_arg (p_var 2) p_nil)))) p_nil)))) p_sNil)
theorem sc_Record_take_in : FnScope ["self", "deed", "later", "found", "finding"] ["self", "deed", "later"] (defScope s_Record_take_in) := ⟨rfl, rfl, rfl, by decide +kernel, rfl, by decide +kernel, by decide +kernel⟩
theorem b_Record_take_in {F : Fx} {P : Program} {w : World} {K : PySem.W.Frag} {mg : Str → Option Value} {base : Heap} {stk : List Env} {a : Addr} {cdv : Value} {A : Around} {s : Shared} {H : Hp} (z : Cz F WN G0 C0 5 (pR P w K mg base stk ["self", "deed", "later", "found", "finding"] "Record.take_in" (defScope s_Record_take_in) a cdv A s H)) (c_findings_of : CalN F P w K mg base u_findings_of 4 4 "findings_of") (c_is_sent : CalN F P w K mg base u_is_sent 3 3 "is_sent") (k_SEND : GVal F mg "SEND" w_SEND) (n_len : mg "len" = none) :
    PSs (pR P w K mg base stk ["self", "deed", "later", "found", "finding"] "Record.take_in" (defScope s_Record_take_in) a cdv A s H) (defBody s_Record_take_in) (tS F WN fb_Record_take_in) := by
  unfold fb_Record_take_in
  exact (p_sCons (p_sExp (p_append z (p_fld z noP0 (p_var 0)) (p_arg (p_var 1) p_nil))) (p_sCons (p_sSet (p_callN z c_findings_of (p_arg (p_fld z noP0 (p_var 0)) (p_arg (p_var 1) (p_arg (p_fld z noP0 (p_var 0)) (p_arg (p_var 2) p_nil))))) (p_tN z 3)) (p_sCons (p_sExp (p_extend z (p_fld z noP0 (p_var 0)) (p_arg (p_lc z true [("finding", 4)] (p_iPl z (p_var 3)) (blkOk_by (by kernel_rfl)) (by decide) (fun _ _ _ _ _ => (p_tN (z.blk) 4)) (fun _ _ _ _ _ => p_ifs0) (fun _ _ _ _ _ => (p_tup (p_arg (b_len (z.blk) n_len (p_fld (z.blk) noP0 (p_var 0))) (p_arg (p_var 4) p_nil))))) p_nil))) (p_sCons (p_sIf (q_cmp z (p_ix z (p_var 1) p_int) (p_glo k_SEND)) (p_sCons (p_sExp (p_append z (p_fld z noP0 (p_var 0)) (p_arg (p_tup (p_arg (p_ix z (p_var 1) p_int) (p_arg (p_callN z c_is_sent (p_arg (p_fld z noP0 (p_var 0)) (p_arg (p_fld z noP0 (p_var 0)) (p_arg (p_ix z (p_var 1) p_int) p_nil)))) p_nil))) p_nil))) p_sNil) p_sNil) (p_sCons (p_sSetA z (p_var 2) (p_var 0)) p_sNil)))))
theorem sc_is_deed : FnScope ["book", "value", "word"] ["book", "value"] (defScope s_is_deed) := ⟨rfl, rfl, rfl, by decide +kernel, rfl, by decide +kernel, by decide +kernel⟩
theorem b_is_deed {F : Fx} {P : Program} {w : World} {K : PySem.W.Frag} {mg : Str → Option Value} {base : Heap} {stk : List Env} {a : Addr} {cdv : Value} {A : Around} {s : Shared} {H : Hp} (z : Cz F WN G0 C0 1 (pR P w K mg base stk ["book", "value", "word"] "is_deed" (defScope s_is_deed) a cdv A s H)) (c_is_integer : CalN F P w K mg base u_is_integer 0 1 "is_integer") (c_is_one_of : CalN F P w K mg base u_is_one_of 0 2 "is_one_of") (c_is_thing : CalN F P w K mg base u_is_thing 0 1 "is_thing") (k_COPY : GVal F mg "COPY" w_COPY) (k_SEND : GVal F mg "SEND" w_SEND) (k_SIGN : GVal F mg "SIGN" w_SIGN) (k_SIZES : GVal F mg "SIZES" w_SIZES) (k_TAKE : GVal F mg "TAKE" w_TAKE) (k_UNSIGN : GVal F mg "UNSIGN" w_UNSIGN) (n_isinstance : mg "isinstance" = none) (n_len : mg "len" = none) (n_str : mg "str" = none) (n_tuple : mg "tuple" = none) :
    PSs (pR P w K mg base stk ["book", "value", "word"] "is_deed" (defScope s_is_deed) a cdv A s H) (defBody s_is_deed) (tS F WN fb_is_deed) := by
  unfold fb_is_deed
  exact (p_sCons (p_sIf (PW.pt (q_or (q_not (q_val (p_isB z .tuple (by intro c h; cases h) n_isinstance n_tuple bt_tuple (p_var 1)))) (q_or (q_cmp z (b_len z n_len (p_var 1)) p_int) (q_or1 (q_not (q_val (p_isB z .str (by intro c h; cases h) n_isinstance n_str bt_str (p_ix z (p_var 1) p_int)))))))) (p_sCons (p_sRet p_bl) p_sNil) p_sNil) (p_sCons (p_sSet (p_ix z (p_var 1) p_int) (p_tN z 2)) (p_sCons (p_sIf (PW.pt (q_or (q_cmp z (p_get z (p_glo k_SIZES) (p_arg (p_var 2) (p_arg p_int p_nil))) (b_len z n_len (p_var 1))) (q_or1 (PW.pt (q_and (q_cmp z (p_var 2) (p_tup (p_arg (p_glo k_SIGN) (p_arg (p_glo k_SEND) p_nil)))) (q_and1 (q_cmp z (p_var 2) (p_fld z noP0 (p_var 0))))))))) (p_sCons (p_sRet p_bl) p_sNil) p_sNil) (p_sCons (p_sIf (q_cmp z (p_var 2) (p_glo k_COPY)) (p_sCons (p_sRet p_bl) p_sNil) p_sNil) (p_sCons (p_sIf (q_cmp z (p_var 2) (p_glo k_SEND)) (p_sCons (p_sRet (p_callN z c_is_thing (p_arg (p_ix z (p_var 1) p_int) p_nil))) p_sNil) p_sNil) (p_sCons (p_sIf (q_cmp z (p_var 2) (p_glo k_TAKE)) (p_sCons (p_sRet (p_callN z c_is_one_of (p_arg (p_ix z (p_var 1) p_int) (p_arg (p_fld z noP0 (p_var 0)) p_nil)))) p_sNil) p_sNil) (p_sCons (p_sIf (q_cmp z (p_var 2) (p_tup (p_arg (p_glo k_SIGN) (p_arg (p_glo k_UNSIGN) p_nil)))) (p_sCons (p_sRet (p_and (p_callN z c_is_one_of (p_arg (p_ix z (p_var 1) p_int) (p_arg (p_fld z noP0 (p_var 0)) p_nil))) (p_one (p_callN z c_is_thing (p_arg (p_ix z (p_var 1) p_int) p_nil))))) p_sNil) p_sNil) (p_sCons (p_sIf (PW.pt (q_or (q_not (q_val (p_callN z c_is_thing (p_arg (p_ix z (p_var 1) p_int) p_nil)))) (q_or1 (q_not (q_val (p_callN z c_is_one_of (p_arg (p_ix z (p_var 1) p_int) (p_arg (p_fld z noP0 (p_var 0)) p_nil)))))))) (p_sCons (p_sRet p_bl) p_sNil) p_sNil) (p_sCons (p_sRet (p_and (p_callN z c_is_integer (p_arg (p_ix z (p_var 1) p_int) p_nil)) (p_one (p_ch op_le op_lt p_int (p_ix z (p_var 1) p_int) (p_fld z noP0 (p_var 0)))))) p_sNil)))))))))
theorem sc_replaced : FnScope ["things", "index", "thing"] ["things", "index", "thing"] (defScope s_replaced) := ⟨rfl, rfl, rfl, by decide +kernel, rfl, by decide +kernel, by decide +kernel⟩
theorem b_replaced {F : Fx} {P : Program} {w : World} {K : PySem.W.Frag} {mg : Str → Option Value} {base : Heap} {stk : List Env} {a : Addr} {cdv : Value} {A : Around} {s : Shared} {H : Hp} (z : Cz F WN G0 C0 0 (pR P w K mg base stk ["things", "index", "thing"] "replaced" (defScope s_replaced) a cdv A s H))  :
    PSs (pR P w K mg base stk ["things", "index", "thing"] "replaced" (defScope s_replaced) a cdv A s H) (defBody s_replaced) (tS F WN fb_replaced) := by
  unfold fb_replaced
  exact (p_sCons (p_sRet (p_tup (p_star z (p_sl z (p_var 0) p_oNo (p_oSo (p_var 1))) (p_arg (p_var 2) (p_star z (p_sl z (p_var 0) (p_oSo (p_bin z true (p_var 1) p_int)) p_oNo) p_nil))))) p_sNil)
theorem sc_Hand_take : FnScope ["self", "part", "index", "pairs", "note", "other"] ["self", "part"] (defScope s_Hand_take) := ⟨rfl, rfl, rfl, by decide +kernel, rfl, by decide +kernel, by decide +kernel⟩
theorem b_Hand_take {F : Fx} {P : Program} {w : World} {K : PySem.W.Frag} {mg : Str → Option Value} {base : Heap} {stk : List Env} {a : Addr} {cdv : Value} {A : Around} {s : Shared} {H : Hp} (z : Cz F WN G0 C0 3 (pR P w K mg base stk ["self", "part", "index", "pairs", "note", "other"] "Hand.take" (defScope s_Hand_take) a cdv A s H)) (c_index_of : CalN F P w K mg base u_index_of 0 2 "index_of") (c_replaced : CalN F P w K mg base u_replaced 0 3 "replaced") (k_MAIN : GVal F mg "MAIN" w_MAIN) (k_SPARE : GVal F mg "SPARE" w_SPARE) (n_list : mg "list" = none) (n_tuple : mg "tuple" = none) (n_zip : mg "zip" = none) (t_Hand_taken : MethN F P w K mg base u_Hand_taken G0 1 "taken" 2 4) :
    PSs (pR P w K mg base stk ["self", "part", "index", "pairs", "note", "other"] "Hand.take" (defScope s_Hand_take) a cdv A s H) (defBody s_Hand_take) (tS F WN fb_Hand_take) := by
  unfold fb_Hand_take
  exact (p_sCons (p_sSet (p_callN z c_index_of (p_arg (p_fld z noP0 (p_fld z noP0 (p_var 0))) (p_arg (p_var 1) p_nil))) (p_tN z 2)) (p_sCons (p_sSetI z (p_callN z c_replaced (p_arg (p_ix z (p_fld z noP0 (p_var 0)) (p_glo k_MAIN)) (p_arg (p_var 2) (p_arg (p_ix z (p_ix z (p_fld z noP0 (p_var 0)) (p_glo k_SPARE)) (p_var 2)) p_nil)))) (p_fld z noP0 (p_var 0)) (p_glo k_MAIN)) (p_sCons (p_sSet (p_lz z true n_list n_zip (p_ix z (p_fld z noP0 (p_var 0)) (p_glo k_MAIN)) (p_ix z (p_fld z noP0 (p_var 0)) (p_glo k_SPARE))) (p_tN z 3)) (p_sCons (p_sSetI z (b_tuple z n_tuple (p_lc z true [("note", 4), ("other", 5)] (p_iPl z (p_var 3)) (blkOk_by (by kernel_rfl)) (by decide) (fun _ _ _ _ _ => (p_tT (z.blk) (p_gN (z.blk) 4 ⟨rfl, by first | exact Or.inl rfl | exact Or.inr rfl, by first | exact Or.inl rfl | exact Or.inr rfl⟩ (p_gN (z.blk) 5 ⟨rfl, by first | exact Or.inl rfl | exact Or.inr rfl, by first | exact Or.inl rfl | exact Or.inr rfl⟩ p_gNil)))) (fun _ _ _ _ _ => p_ifs0) (fun _ _ _ _ _ => (p_methN (z.blk) t_Hand_taken (p_var 0) (p_arg (p_var 4) (p_arg (p_var 5) (p_arg (p_var 2) p_nil))))))) (p_fld z noP0 (p_var 0)) (p_glo k_MAIN)) p_sNil))))
theorem sc_Hand_note : FnScope ["self", "person", "thing"] ["self", "person", "thing"] (defScope s_Hand_note) := ⟨rfl, rfl, rfl, by decide +kernel, rfl, by decide +kernel, by decide +kernel⟩
theorem b_Hand_note {F : Fx} {P : Program} {w : World} {K : PySem.W.Frag} {mg : Str → Option Value} {base : Heap} {stk : List Env} {a : Addr} {cdv : Value} {A : Around} {s : Shared} {H : Hp} (z : Cz F WN G0 C0 1 (pR P w K mg base stk ["self", "person", "thing"] "Hand.note" (defScope s_Hand_note) a cdv A s H)) (c_index_of : CalN F P w K mg base u_index_of 0 2 "index_of") :
    PSs (pR P w K mg base stk ["self", "person", "thing"] "Hand.note" (defScope s_Hand_note) a cdv A s H) (defBody s_Hand_note) (tS F WN fb_Hand_note) := by
  unfold fb_Hand_note
  exact (p_sCons (p_sRet (p_ix z (p_ix z (p_fld z noP0 (p_var 0)) (p_var 2)) (p_callN z c_index_of (p_arg (p_fld z noP0 (p_fld z noP0 (p_var 0))) (p_arg (p_var 1) p_nil))))) p_sNil)
theorem sc_are_of : FnScope ["value", "words", "word"] ["value", "words"] (defScope s_are_of) := ⟨rfl, rfl, rfl, by decide +kernel, rfl, by decide +kernel, by decide +kernel⟩
theorem b_are_of {F : Fx} {P : Program} {w : World} {K : PySem.W.Frag} {mg : Str → Option Value} {base : Heap} {stk : List Env} {a : Addr} {cdv : Value} {A : Around} {s : Shared} {H : Hp} (z : Cz F WN G0 C0 0 (pR P w K mg base stk ["value", "words", "word"] "are_of" (defScope s_are_of) a cdv A s H)) (n_all : mg "all" = none) (n_isinstance : mg "isinstance" = none) (n_list : mg "list" = none) (n_set : mg "set" = none) (n_sorted : mg "sorted" = none) (n_str : mg "str" = none) (n_tuple : mg "tuple" = none) :
    PSs (pR P w K mg base stk ["value", "words", "word"] "are_of" (defScope s_are_of) a cdv A s H) (defBody s_are_of) (tS F WN fb_are_of) := by
  unfold fb_are_of
  exact (p_sCons (p_sIf (PW.pt (q_or (q_not (q_val (p_isB z .tuple (by intro c h; cases h) n_isinstance n_tuple bt_tuple (p_var 0)))) (q_or1 (q_not (q_val (b_all z n_all (p_lc z true [("word", 2)] (p_iPl z (p_var 0)) (blkOk_by (by kernel_rfl)) (by decide) (fun _ _ _ _ _ => (p_tN (z.blk) 2)) (fun _ _ _ _ _ => p_ifs0) (fun _ _ _ _ _ => (p_and (p_isB (z.blk) .str (by intro c h; cases h) n_isinstance n_str bt_str (p_var 2)) (p_one (p_cmp (z.blk) (p_var 2) (p_var 1)))))))))))) (p_sCons (p_sRet p_bl) p_sNil) p_sNil) (p_sCons (p_sRet (p_cmp z (b_list z true n_list (p_var 0)) (p_ss z true n_sorted n_set (p_var 0)))) p_sNil))
theorem sc_look_at_people : FnScope ["parts", "people", "name", "one"] ["parts", "people"] (defScope s_look_at_people) := ⟨rfl, rfl, rfl, by decide +kernel, rfl, by decide +kernel, by decide +kernel⟩
theorem b_look_at_people {F : Fx} {P : Program} {w : World} {K : PySem.W.Frag} {mg : Str → Option Value} {base : Heap} {stk : List Env} {a : Addr} {cdv : Value} {A : Around} {s : Shared} {H : Hp} (z : Cz F WN G0 C0 2 (pR P w K mg base stk ["parts", "people", "name", "one"] "look_at_people" (defScope s_look_at_people) a cdv A s H)) (c_is_name : CalN F P w K mg base u_is_name 0 1 "is_name") (c_is_person : CalN F P w K mg base u_is_person 1 2 "is_person") (k_MOST_NAMES : GVal F mg "MOST_NAMES" w_MOST_NAMES) (n_all : mg "all" = none) (n_dict : mg "dict" = none) (n_isinstance : mg "isinstance" = none) (n_len : mg "len" = none) (n_list : mg "list" = none) (n_sorted : mg "sorted" = none) :
    PSs (pR P w K mg base stk ["parts", "people", "name", "one"] "look_at_people" (defScope s_look_at_people) a cdv A s H) (defBody s_look_at_people) (tS F WN fb_look_at_people) := by
  unfold fb_look_at_people
  exact (p_sCons (p_sIf (PW.pt (q_or (q_not (q_val (p_isB z .dict (by intro c h; cases h) n_isinstance n_dict bt_dict (p_var 1)))) (q_or (q_not (q_ch op_le op_le p_int (b_len z n_len (p_var 1)) (p_glo k_MOST_NAMES))) (q_or1 (q_not (q_val (b_all z n_all (p_lc z true [("one", 3)] (p_iPl z (p_var 1)) (blkOk_by (by kernel_rfl)) (by decide) (fun _ _ _ _ _ => (p_tN (z.blk) 3)) (fun _ _ _ _ _ => p_ifs0) (fun _ _ _ _ _ => (p_callN (z.blk) c_is_name (p_arg (p_var 3) p_nil))))))))))) (p_sCons p_sNo p_sNil) p_sNil) (p_sCons (p_sFor z (p_iPl z (b_sorted z true n_sorted (b_list z true n_list (p_var 1)))) (p_tN z 2) (p_sCons (p_sIf (q_not (q_val (p_callN z c_is_person (p_arg (p_var 0) (p_arg (p_ix z (p_var 1) (p_var 2)) p_nil))))) (p_sCons p_sNo p_sNil) p_sNil) p_sNil)) p_sNil))
theorem sc__law_next : FnScope ["_law_h", "_law_bound", "_law_cell"] ["_law_h", "_law_bound"] (defScope s__law_next) := ⟨rfl, rfl, rfl, by decide +kernel, rfl, by decide +kernel, by decide +kernel⟩
theorem b__law_next {F : Fx} {P : Program} {w : World} {K : PySem.W.Frag} {mg : Str → Option Value} {base : Heap} {stk : List Env} {a : Addr} {cdv : Value} {A : Around} {s : Shared} {H : Hp} (z : Cz F WN G0 C0 0 (pR P w K mg base stk ["_law_h", "_law_bound", "_law_cell"] "_law_next" (defScope s__law_next) a cdv A s H)) (n_int : mg "int" = none) (n_len : mg "len" = none) (n_max : mg "max" = none) :
    PSs (pR P w K mg base stk ["_law_h", "_law_bound", "_law_cell"] "_law_next" (defScope s__law_next) a cdv A s H) (defBody s__law_next) (tS F WN fb__law_next) := by
  unfold fb__law_next
  exact (p_sCons (p_sSet (p_ix z (p_bin z true (p_ix z (p_var 0) p_int) (p_lst true (p_arg p_int p_nil))) (p_bin z true (b_int z n_int (p_ix z (p_var 0) p_int)) (b_max z n_max p_int (b_len z n_len (p_ix z (p_var 0) p_int))))) (p_tN z 2)) (p_sCons (p_sIf (q_cmp z (p_var 2) (p_bin z true p_int p_int)) (p_sCons (p_sSetI z (p_bin z true (p_var 2) (p_var 1)) (p_ix z (p_var 0) p_int) (p_bin z true (b_int z n_int (p_ix z (p_var 0) p_int)) (b_len z n_len (p_ix z (p_var 0) p_int)))) (p_sCons (p_sRet (p_bin z true (b_int z n_int (p_var 2)) (p_var 1))) p_sNil)) p_sNil) (p_sCons (p_sSetI z (p_bin z true (b_int z n_int (p_bin z true (p_bin z true (p_bin z true (p_ix z (p_var 0) p_int) p_int) (p_bin z true (p_var 2) p_int)) p_int)) p_int) (p_var 0) p_int) (p_sCons (p_sSetI z (p_bin z true (p_ix z (p_var 0) p_int) p_int) (p_var 0) p_int) (p_sCons (p_sRet (p_bin z true (b_int z n_int (p_bin z true (p_ix z (p_var 0) p_int) p_int)) (p_var 1))) p_sNil)))))
end Ms
set_option Elab.async false
set_option linter.all false
set_option maxRecDepth 100000
set_option maxHeartbeats 4000000
namespace Ms
open PySem PySem.Spec PyProof.Rows L2 Mp Mg
theorem sc_Record_found : FnScope ["self"] ["self"] (defScope s_Record_found) := ⟨rfl, rfl, rfl, by decide +kernel, rfl, by decide +kernel, by decide +kernel⟩
theorem b_Record_found {F : Fx} {P : Program} {w : World} {K : PySem.W.Frag} {mg : Str → Option Value} {base : Heap} {stk : List Env} {a : Addr} {cdv : Value} {A : Around} {s : Shared} {H : Hp} (z : Cz F WN G0 C0 2 (pR P w K mg base stk ["self"] "Record.found" (defScope s_Record_found) a cdv A s H)) (n_list : mg "list" = none) :
    PSs (pR P w K mg base stk ["self"] "Record.found" (defScope s_Record_found) a cdv A s H) (defBody s_Record_found) (tS F WN fb_Record_found) := by
  unfold fb_Record_found
  exact (p_sCons (p_sRet (b_list z true n_list (p_fld z noP0 (p_var 0)))) p_sNil)
theorem sc_has_enough : FnScope ["book", "found", "part"] ["book", "found"] (defScope s_has_enough) := ⟨rfl, rfl, rfl, by decide +kernel, rfl, by decide +kernel, by decide +kernel⟩
theorem b_has_enough {F : Fx} {P : Program} {w : World} {K : PySem.W.Frag} {mg : Str → Option Value} {base : Heap} {stk : List Env} {a : Addr} {cdv : Value} {A : Around} {s : Shared} {H : Hp} (z : Cz F WN G0 C0 0 (pR P w K mg base stk ["book", "found", "part"] "has_enough" (defScope s_has_enough) a cdv A s H)) (n_all : mg "all" = none) (n_len : mg "len" = none) :
    PSs (pR P w K mg base stk ["book", "found", "part"] "has_enough" (defScope s_has_enough) a cdv A s H) (defBody s_has_enough) (tS F WN fb_has_enough) := by
  unfold fb_has_enough
  exact (p_sCons (p_sRet (b_all z n_all (p_lc z true [("part", 2)] (p_iPl z (p_fld z noP0 (p_var 0))) (blkOk_by (by kernel_rfl)) (by decide) (fun _ _ _ _ _ => (p_tN (z.blk) 2)) (fun _ _ _ _ _ => p_ifs0) (fun _ _ _ _ _ => (p_cmp (z.blk) (b_len (z.blk) n_len (p_ix (z.blk) (p_var 1) (p_var 2))) (p_ix (z.blk) (p_fld (z.blk) noP0 (p_var 0)) (p_var 2))))))) p_sNil)
theorem sc_lost_people : FnScope ["book", "deed", "before", "behind", "first", "later", "found", "person", "gone", "index", "part"] ["book", "deed", "before", "behind"] (defScope s_lost_people) := ⟨rfl, rfl, rfl, by decide +kernel, rfl, by decide +kernel, by decide +kernel⟩
theorem b_lost_people {F : Fx} {P : Program} {w : World} {K : PySem.W.Frag} {mg : Str → Option Value} {base : Heap} {stk : List Env} {a : Addr} {cdv : Value} {A : Around} {s : Shared} {H : Hp} (z : Cz F WN G0 C0 2 (pR P w K mg base stk ["book", "deed", "before", "behind", "first", "later", "found", "person", "gone", "index", "part"] "lost_people" (defScope s_lost_people) a cdv A s H)) (c_counting_at : CalN F P w K mg base u_counting_at 1 3 "counting_at") (k_MAIN : GVal F mg "MAIN" w_MAIN) (k_UNSIGN : GVal F mg "UNSIGN" w_UNSIGN) (n_enumerate : mg "enumerate" = none) :
    PSs (pR P w K mg base stk ["book", "deed", "before", "behind", "first", "later", "found", "person", "gone", "index", "part"] "lost_people" (defScope s_lost_people) a cdv A s H) (defBody s_lost_people) (tS F WN fb_lost_people) := by
  unfold fb_lost_people
  exact (p_sCons (p_sSet (p_callN z c_counting_at (p_arg (p_var 0) (p_arg (p_ix z (p_var 2) p_int) (p_arg (p_ix z (p_var 2) p_int) p_nil)))) (p_tN z 4)) (p_sCons (p_sSet (p_callN z c_counting_at (p_arg (p_var 0) (p_arg (p_ix z (p_var 3) p_int) (p_arg (p_ix z (p_var 3) p_int) p_nil)))) (p_tN z 5)) (p_sCons (p_sSet (p_lst false p_nil) (p_tN z 6)) (p_sCons (p_sFor z (p_iPl z (p_fld z noP0 (p_var 0))) (p_tN z 7) (p_sCons (p_sLc z true [("index", 9), ("part", 10)] (p_iEn z rfl n_enumerate (p_fld z noP0 (p_var 0))) (blkOk_by (by kernel_rfl)) (by decide) (fun _ _ _ _ _ => (p_tT (z.blk) (p_gN (z.blk) 9 ⟨rfl, by first | exact Or.inl rfl | exact Or.inr rfl, by first | exact Or.inl rfl | exact Or.inr rfl⟩ (p_gN (z.blk) 10 ⟨rfl, by first | exact Or.inl rfl | exact Or.inr rfl, by first | exact Or.inl rfl | exact Or.inr rfl⟩ p_gNil)))) (fun _ _ _ _ _ => p_ifs1 (q_cmp (z.blk) (p_ix (z.blk) (p_ix (z.blk) (p_var 2) p_int) (p_var 9)) (p_ix (z.blk) (p_ix (z.blk) (p_var 3) p_int) (p_var 9)))) (fun _ _ _ _ _ => (p_var 10))) (p_sCons (p_sLc z true [("part", 10)] (p_iPl z (p_var 8)) (blkOk_by (by kernel_rfl)) (by decide) (fun _ _ _ _ _ => (p_tN (z.blk) 10)) (fun _ _ _ _ _ => p_ifs1 (PW.pt (q_and (q_cmp (z.blk) (p_var 7) (p_ix (z.blk) (p_var 4) (p_var 10))) (q_and1 (q_cmp (z.blk) (p_var 7) (p_ix (z.blk) (p_var 5) (p_var 10))))))) (fun _ _ _ _ _ => (p_var 10))) (p_sCons (p_sIf (PW.pt (q_and (q_cmp z (p_var 8) (p_lst false p_nil)) (q_and1 (q_cmp z (p_var 1) (p_tup (p_arg (p_glo k_UNSIGN) (p_arg (p_var 7) (p_arg (p_glo k_MAIN) p_nil)))))))) (p_sCons (p_sExp (p_append z (p_var 6) (p_arg (p_var 7) p_nil))) p_sNil) p_sNil) p_sNil)))) (p_sCons (p_sRet (p_var 6)) p_sNil)))))
theorem sc_is_thing : FnScope ["value"] ["value"] (defScope s_is_thing) := ⟨rfl, rfl, rfl, by decide +kernel, rfl, by decide +kernel, by decide +kernel⟩
theorem b_is_thing {F : Fx} {P : Program} {w : World} {K : PySem.W.Frag} {mg : Str → Option Value} {base : Heap} {stk : List Env} {a : Addr} {cdv : Value} {A : Around} {s : Shared} {H : Hp} (z : Cz F WN G0 C0 0 (pR P w K mg base stk ["value"] "is_thing" (defScope s_is_thing) a cdv A s H)) (k_THINGS : GVal F mg "THINGS" w_THINGS) (n_isinstance : mg "isinstance" = none) (n_str : mg "str" = none) :
    PSs (pR P w K mg base stk ["value"] "is_thing" (defScope s_is_thing) a cdv A s H) (defBody s_is_thing) (tS F WN fb_is_thing) := by
  unfold fb_is_thing
  exact (p_sCons (p_sRet (p_and (p_isB z .str (by intro c h; cases h) n_isinstance n_str bt_str (p_var 0)) (p_one (p_cmp z (p_var 0) (p_glo k_THINGS))))) p_sNil)
theorem sc_Hand___init__ : FnScope ["self", "book", "standing"] ["self", "book", "standing"] (defScope s_Hand___init__) := ⟨rfl, rfl, rfl, by decide +kernel, rfl, by decide +kernel, by decide +kernel⟩
theorem b_Hand___init__ {F : Fx} {P : Program} {w : World} {K : PySem.W.Frag} {mg : Str → Option Value} {base : Heap} {stk : List Env} {a : Addr} {cdv : Value} {A : Around} {s : Shared} {H : Hp} (z : Cz F WN G0 C0 0 (pR P w K mg base stk ["self", "book", "standing"] "Hand.__init__" (defScope s_Hand___init__) a cdv A s H)) (k_MAIN : GVal F mg "MAIN" w_MAIN) (k_SPARE : GVal F mg "SPARE" w_SPARE) :
    PSs (pR P w K mg base stk ["self", "book", "standing"] "Hand.__init__" (defScope s_Hand___init__) a cdv A s H) (defBody s_Hand___init__) (tS F WN fb_Hand___init__) := by
  unfold fb_Hand___init__
  exact (p_sCons (p_sSetA z (p_var 1) (p_var 0)) (p_sCons (p_sSetA z (p_dict z false (p_kv (p_glo k_MAIN) (p_ix z (p_var 2) p_int) (p_kv (p_glo k_SPARE) (p_ix z (p_var 2) p_int) p_kNil))) (p_var 0)) (p_sCons (p_sSetA z (p_dict z false (p_kv (p_glo k_MAIN) (p_ix z (p_var 2) p_int) (p_kv (p_glo k_SPARE) (p_ix z (p_var 2) p_int) p_kNil))) (p_var 0)) p_sNil)))
theorem sc_stale : FnScope ["note", "signature", "seen", "meant"] ["note"] (defScope s_stale) := ⟨rfl, rfl, rfl, by decide +kernel, rfl, by decide +kernel, by decide +kernel⟩
theorem b_stale {F : Fx} {P : Program} {w : World} {K : PySem.W.Frag} {mg : Str → Option Value} {base : Heap} {stk : List Env} {a : Addr} {cdv : Value} {A : Around} {s : Shared} {H : Hp} (z : Cz F WN G0 C0 0 (pR P w K mg base stk ["note", "signature", "seen", "meant"] "stale" (defScope s_stale) a cdv A s H))  :
    PSs (pR P w K mg base stk ["note", "signature", "seen", "meant"] "stale" (defScope s_stale) a cdv A s H) (defBody s_stale) (tS F WN fb_stale) := by
  unfold fb_stale
  exact (p_sCons (p_sSet (p_var 0) (p_tT z (p_gN z 1 ⟨rfl, by first | exact Or.inl rfl | exact Or.inr rfl, by first | exact Or.inl rfl | exact Or.inr rfl⟩ (p_gN z 2 ⟨rfl, by first | exact Or.inl rfl | exact Or.inr rfl, by first | exact Or.inl rfl | exact Or.inr rfl⟩ (p_gN z 3 ⟨rfl, by first | exact Or.inl rfl | exact Or.inr rfl, by first | exact Or.inl rfl | exact Or.inr rfl⟩ p_gNil))))) (p_sCons (p_sRet (p_tup (p_arg (p_ife (q_cmp z (p_var 1) p_non) p_non (p_tup (p_arg (p_ix z (p_var 1) p_int) (p_arg p_bl p_nil)))) (p_arg (p_var 2) (p_arg (p_var 3) p_nil))))) p_sNil))
theorem sc_Hand_put_note : FnScope ["self", "person", "thing", "note"] ["self", "person", "thing", "note"] (defScope s_Hand_put_note) := ⟨rfl, rfl, rfl, by decide +kernel, rfl, by decide +kernel, by decide +kernel⟩
theorem b_Hand_put_note {F : Fx} {P : Program} {w : World} {K : PySem.W.Frag} {mg : Str → Option Value} {base : Heap} {stk : List Env} {a : Addr} {cdv : Value} {A : Around} {s : Shared} {H : Hp} (z : Cz F WN G0 C0 1 (pR P w K mg base stk ["self", "person", "thing", "note"] "Hand.put_note" (defScope s_Hand_put_note) a cdv A s H)) (c_index_of : CalN F P w K mg base u_index_of 0 2 "index_of") (c_replaced : CalN F P w K mg base u_replaced 0 3 "replaced") :
    PSs (pR P w K mg base stk ["self", "person", "thing", "note"] "Hand.put_note" (defScope s_Hand_put_note) a cdv A s H) (defBody s_Hand_put_note) (tS F WN fb_Hand_put_note) := by
  unfold fb_Hand_put_note
  exact (p_sCons (p_sSetI z (p_callN z c_replaced (p_arg (p_ix z (p_fld z noP0 (p_var 0)) (p_var 2)) (p_arg (p_callN z c_index_of (p_arg (p_fld z noP0 (p_fld z noP0 (p_var 0))) (p_arg (p_var 1) p_nil))) (p_arg (p_var 3) p_nil)))) (p_fld z noP0 (p_var 0)) (p_var 2)) p_sNil)
theorem sc_Hand_can_be : FnScope ["self", "deed", "word", "thing"] ["self", "deed"] (defScope s_Hand_can_be) := ⟨rfl, rfl, rfl, by decide +kernel, rfl, by decide +kernel, by decide +kernel⟩
theorem b_Hand_can_be {F : Fx} {P : Program} {w : World} {K : PySem.W.Frag} {mg : Str → Option Value} {base : Heap} {stk : List Env} {a : Addr} {cdv : Value} {A : Around} {s : Shared} {H : Hp} (z : Cz F WN G0 C0 2 (pR P w K mg base stk ["self", "deed", "word", "thing"] "Hand.can_be" (defScope s_Hand_can_be) a cdv A s H)) (c_index_of : CalN F P w K mg base u_index_of 0 2 "index_of") (k_COPY : GVal F mg "COPY" w_COPY) (k_NOTHING : GVal F mg "NOTHING" w_NOTHING) (k_SIGN : GVal F mg "SIGN" w_SIGN) (k_SPARE : GVal F mg "SPARE" w_SPARE) (k_TAKE : GVal F mg "TAKE" w_TAKE) (k_UNSIGN : GVal F mg "UNSIGN" w_UNSIGN) (k_WRITE : GVal F mg "WRITE" w_WRITE) (t_Hand_note : MethN F P w K mg base u_Hand_note G0 1 "note" 1 3) :
    PSs (pR P w K mg base stk ["self", "deed", "word", "thing"] "Hand.can_be" (defScope s_Hand_can_be) a cdv A s H) (defBody s_Hand_can_be) (tS F WN fb_Hand_can_be) := by
  unfold fb_Hand_can_be
  exact (p_sCons (p_sSet (p_ix z (p_var 1) p_int) (p_tN z 2)) (p_sCons (p_sIf (q_cmp z (p_var 2) (p_glo k_COPY)) (p_sCons (p_sRet p_bl) p_sNil) p_sNil) (p_sCons (p_sIf (q_cmp z (p_var 2) (p_glo k_TAKE)) (p_sCons (p_sRet (p_cmp z (p_ix z (p_fld z noP0 (p_var 0)) (p_glo k_SPARE)) p_non)) p_sNil) p_sNil) (p_sCons (p_sSet (p_ife (q_cmp z (p_var 2) (p_tup (p_arg (p_glo k_SIGN) (p_arg (p_glo k_UNSIGN) p_nil)))) (p_ix z (p_var 1) p_int) (p_ix z (p_var 1) p_int)) (p_tN z 3)) (p_sCons (p_sIf (q_cmp z (p_ix z (p_fld z noP0 (p_var 0)) (p_var 3)) p_non) (p_sCons (p_sRet p_bl) p_sNil) p_sNil) (p_sCons (p_sIf (q_cmp z (p_var 2) (p_glo k_UNSIGN)) (p_sCons (p_sRet (p_cmp z (p_methN z t_Hand_note (p_var 0) (p_arg (p_ix z (p_var 1) p_int) (p_arg (p_var 3) p_nil))) (p_glo k_NOTHING))) p_sNil) p_sNil) (p_sCons (p_sRet (p_or (p_cmp z (p_var 2) (p_glo k_WRITE)) (p_one (p_cmp z (p_ix z (p_ix z (p_fld z noP0 (p_var 0)) (p_var 3)) (p_callN z c_index_of (p_arg (p_fld z noP0 (p_fld z noP0 (p_var 0))) (p_arg (p_ix z (p_var 1) p_int) p_nil)))) (p_ix z (p_var 1) p_int))))) p_sNil)))))))
theorem sc_is_binding : FnScope ["value"] ["value"] (defScope s_is_binding) := ⟨rfl, rfl, rfl, by decide +kernel, rfl, by decide +kernel, by decide +kernel⟩
theorem b_is_binding {F : Fx} {P : Program} {w : World} {K : PySem.W.Frag} {mg : Str → Option Value} {base : Heap} {stk : List Env} {a : Addr} {cdv : Value} {A : Around} {s : Shared} {H : Hp} (z : Cz F WN G0 C0 0 (pR P w K mg base stk ["value"] "is_binding" (defScope s_is_binding) a cdv A s H)) (k_BINDINGS : GVal F mg "BINDINGS" w_BINDINGS) (n_isinstance : mg "isinstance" = none) (n_str : mg "str" = none) :
    PSs (pR P w K mg base stk ["value"] "is_binding" (defScope s_is_binding) a cdv A s H) (defBody s_is_binding) (tS F WN fb_is_binding) := by
  unfold fb_is_binding
  exact (p_sCons (p_sRet (p_and (p_isB z .str (by intro c h; cases h) n_isinstance n_str bt_str (p_var 0)) (p_one (p_cmp z (p_var 0) (p_glo k_BINDINGS))))) p_sNil)
theorem sc_are_parts : FnScope ["value", "name"] ["value"] (defScope s_are_parts) := ⟨rfl, rfl, rfl, by decide +kernel, rfl, by decide +kernel, by decide +kernel⟩
theorem b_are_parts {F : Fx} {P : Program} {w : World} {K : PySem.W.Frag} {mg : Str → Option Value} {base : Heap} {stk : List Env} {a : Addr} {cdv : Value} {A : Around} {s : Shared} {H : Hp} (z : Cz F WN G0 C0 1 (pR P w K mg base stk ["value", "name"] "are_parts" (defScope s_are_parts) a cdv A s H)) (c_is_integer : CalN F P w K mg base u_is_integer 0 1 "is_integer") (c_is_name : CalN F P w K mg base u_is_name 0 1 "is_name") (k_MOST_NAMES : GVal F mg "MOST_NAMES" w_MOST_NAMES) (k_MOST_NEEDED : GVal F mg "MOST_NEEDED" w_MOST_NEEDED) (n_all : mg "all" = none) (n_dict : mg "dict" = none) (n_isinstance : mg "isinstance" = none) (n_len : mg "len" = none) :
    PSs (pR P w K mg base stk ["value", "name"] "are_parts" (defScope s_are_parts) a cdv A s H) (defBody s_are_parts) (tS F WN fb_are_parts) := by
  unfold fb_are_parts
  exact (p_sCons (p_sIf (PW.pt (q_or (q_not (q_val (p_isB z .dict (by intro c h; cases h) n_isinstance n_dict bt_dict (p_var 0)))) (q_or (q_not (q_ch op_le op_le p_int (b_len z n_len (p_var 0)) (p_glo k_MOST_NAMES))) (q_or1 (q_not (q_val (b_all z n_all (p_lc z true [("name", 1)] (p_iPl z (p_var 0)) (blkOk_by (by kernel_rfl)) (by decide) (fun _ _ _ _ _ => (p_tN (z.blk) 1)) (fun _ _ _ _ _ => p_ifs0) (fun _ _ _ _ _ => (p_callN (z.blk) c_is_name (p_arg (p_var 1) p_nil))))))))))) (p_sCons (p_sRet p_bl) p_sNil) p_sNil) (p_sCons (p_sRet (b_all z n_all (p_lc z true [("name", 1)] (p_iPl z (p_var 0)) (blkOk_by (by kernel_rfl)) (by decide) (fun _ _ _ _ _ => (p_tN (z.blk) 1)) (fun _ _ _ _ _ => p_ifs0) (fun _ _ _ _ _ => (p_and (p_callN (z.blk) c_is_integer (p_arg (p_ix (z.blk) (p_var 0) (p_var 1)) p_nil)) (p_one (p_ch op_le op_le p_int (p_ix (z.blk) (p_var 0) (p_var 1)) (p_glo k_MOST_NEEDED)))))))) p_sNil))
theorem sc_look_at_thing : FnScope ["record", "thing"] ["record", "thing"] (defScope s_look_at_thing) := ⟨rfl, rfl, rfl, by decide +kernel, rfl, by decide +kernel, by decide +kernel⟩
theorem b_look_at_thing {F : Fx} {P : Program} {w : World} {K : PySem.W.Frag} {mg : Str → Option Value} {base : Heap} {stk : List Env} {a : Addr} {cdv : Value} {A : Around} {s : Shared} {H : Hp} (z : Cz F WN G0 C0 1 (pR P w K mg base stk ["record", "thing"] "look_at_thing" (defScope s_look_at_thing) a cdv A s H)) (c_is_thing : CalN F P w K mg base u_is_thing 0 1 "is_thing") (k_SPARE : GVal F mg "SPARE" w_SPARE) :
    PSs (pR P w K mg base stk ["record", "thing"] "look_at_thing" (defScope s_look_at_thing) a cdv A s H) (defBody s_look_at_thing) (tS F WN fb_look_at_thing) := by
  unfold fb_look_at_thing
  exact (p_sCons (p_sIf (PW.pt (q_or (q_not (q_val (p_callN z c_is_thing (p_arg (p_var 1) p_nil)))) (q_or1 (PW.pt (q_and (q_cmp z (p_var 1) (p_glo k_SPARE)) (q_and1 (q_cmp z (p_ix z (p_fld z noP0 (p_var 0)) p_int) p_non))))))) (p_sCons p_sNo p_sNil) p_sNil) p_sNil)
end Ms
set_option Elab.async false
set_option linter.all false
set_option maxRecDepth 100000
set_option maxHeartbeats 4000000
namespace Ms
open PySem PySem.Spec PyProof.Rows L2 Mp Mg
theorem sc__law_mix : FnScope ["_law_script", "_law_seed", "_law_state", "_law_cell"] ["_law_script", "_law_seed"] (defScope s__law_mix) := ⟨rfl, rfl, rfl, by decide +kernel, rfl, by decide +kernel, by decide +kernel⟩
theorem b__law_mix {F : Fx} {P : Program} {w : World} {K : PySem.W.Frag} {mg : Str → Option Value} {base : Heap} {stk : List Env} {a : Addr} {cdv : Value} {A : Around} {s : Shared} {H : Hp} (z : Cz F WN G0 C0 0 (pR P w K mg base stk ["_law_script", "_law_seed", "_law_state", "_law_cell"] "_law_mix" (defScope s__law_mix) a cdv A s H)) (n_int : mg "int" = none) (n_list : mg "list" = none) :
    PSs (pR P w K mg base stk ["_law_script", "_law_seed", "_law_state", "_law_cell"] "_law_mix" (defScope s__law_mix) a cdv A s H) (defBody s__law_mix) (tS F WN fb__law_mix) := by
  unfold fb__law_mix
  exact (p_sCons (p_sSet (p_var 1) (p_tN z 2)) (p_sCons (p_sFor z (p_iPl z (p_frz (p_var 0))) (p_tN z 3) (p_sCons (p_sSet (p_bin z true (b_int z n_int (p_bin z true (p_bin z true (p_bin z true (p_var 2) p_int) (p_bin z true (b_int z n_int (p_var 3)) p_int)) p_int)) p_int) (p_tN z 2)) p_sNil)) (p_sCons (p_sRet (p_lst false (p_arg (p_var 2) (p_arg (b_list z false n_list (p_var 0)) (p_arg p_int (p_arg p_int p_nil)))))) p_sNil)))
theorem sc_does_count : FnScope ["binding", "signature", "contents", "index", "sheet", "is_fresh"] ["binding", "signature", "contents", "index"] (defScope s_does_count) := ⟨rfl, rfl, rfl, by decide +kernel, rfl, by decide +kernel, by decide +kernel⟩
theorem b_does_count {F : Fx} {P : Program} {w : World} {K : PySem.W.Frag} {mg : Str → Option Value} {base : Heap} {stk : List Env} {a : Addr} {cdv : Value} {A : Around} {s : Shared} {H : Hp} (z : Cz F WN G0 C0 0 (pR P w K mg base stk ["binding", "signature", "contents", "index", "sheet", "is_fresh"] "does_count" (defScope s_does_count) a cdv A s H))  :
    PSs (pR P w K mg base stk ["binding", "signature", "contents", "index", "sheet", "is_fresh"] "does_count" (defScope s_does_count) a cdv A s H) (defBody s_does_count) (tS F WN fb_does_count) := by
  unfold fb_does_count
  exact (p_sCons (p_sIf (q_cmp z (p_var 1) p_non) (p_sCons (p_sRet p_bl) p_sNil) p_sNil) (p_sCons (p_sSet (p_var 1) (p_tT z (p_gN z 4 ⟨rfl, by first | exact Or.inl rfl | exact Or.inr rfl, by first | exact Or.inl rfl | exact Or.inr rfl⟩ (p_gN z 5 ⟨rfl, by first | exact Or.inl rfl | exact Or.inr rfl, by first | exact Or.inl rfl | exact Or.inr rfl⟩ p_gNil)))) (p_sCons (p_sIf (q_cmp z (p_var 0) p_str) (p_sCons (p_sRet (p_cmp z (p_var 4) (p_var 2))) p_sNil) p_sNil) (p_sCons (p_sIf (q_cmp z (p_var 0) p_str) (p_sCons (p_sRet (p_cmp z (p_ix z (p_var 4) (p_var 3)) (p_ix z (p_var 2) (p_var 3)))) p_sNil) p_sNil) (p_sCons (p_sRet (p_and (p_cmp z (p_ix z (p_var 4) (p_var 3)) p_non) (p_one (p_or (p_cmp z (p_var 0) p_str) (p_one (p_var 5)))))) p_sNil)))))
theorem sc_findings_of : FnScope ["book", "deed", "before", "behind", "at", "person"] ["book", "deed", "before", "behind"] (defScope s_findings_of) := ⟨rfl, rfl, rfl, by decide +kernel, rfl, by decide +kernel, by decide +kernel⟩
theorem b_findings_of {F : Fx} {P : Program} {w : World} {K : PySem.W.Frag} {mg : Str → Option Value} {base : Heap} {stk : List Env} {a : Addr} {cdv : Value} {A : Around} {s : Shared} {H : Hp} (z : Cz F WN G0 C0 4 (pR P w K mg base stk ["book", "deed", "before", "behind", "at", "person"] "findings_of" (defScope s_findings_of) a cdv A s H)) (c_lost_people : CalN F P w K mg base u_lost_people 2 4 "lost_people") (c_send_findings : CalN F P w K mg base u_send_findings 3 4 "send_findings") (k_MAIN : GVal F mg "MAIN" w_MAIN) (k_SEND : GVal F mg "SEND" w_SEND) :
    PSs (pR P w K mg base stk ["book", "deed", "before", "behind", "at", "person"] "findings_of" (defScope s_findings_of) a cdv A s H) (defBody s_findings_of) (tS F WN fb_findings_of) := by
  unfold fb_findings_of
  exact (p_sCons (p_sIf (q_cmp z (p_ix z (p_var 1) p_int) (p_glo k_SEND)) (p_sCons (p_sSet (p_ife (q_cmp z (p_ix z (p_var 1) p_int) (p_glo k_MAIN)) p_int p_int) (p_tN z 4)) (p_sCons (p_sRet (p_callN z c_send_findings (p_arg (p_var 0) (p_arg (p_ix z (p_var 1) p_int) (p_arg (p_ix z (p_var 2) (p_var 4)) (p_arg (p_ix z (p_var 2) (p_bin z true (p_var 4) p_int)) p_nil)))))) p_sNil)) p_sNil) (p_sCons (p_sRet (p_lc z true [("person", 5)] (p_iPl z (p_frz (p_callN z c_lost_people (p_arg (p_var 0) (p_arg (p_var 1) (p_arg (p_var 2) (p_arg (p_var 3) p_nil))))))) (blkOk_by (by kernel_rfl)) (by decide) (fun _ _ _ _ _ => (p_tN (z.blk) 5)) (fun _ _ _ _ _ => p_ifs0) (fun _ _ _ _ _ => (p_tup (p_arg p_str (p_arg (p_var 5) p_nil)))))) p_sNil))
theorem sc_is_one_of : FnScope ["value", "names"] ["value", "names"] (defScope s_is_one_of) := ⟨rfl, rfl, rfl, by decide +kernel, rfl, by decide +kernel, by decide +kernel⟩
theorem b_is_one_of {F : Fx} {P : Program} {w : World} {K : PySem.W.Frag} {mg : Str → Option Value} {base : Heap} {stk : List Env} {a : Addr} {cdv : Value} {A : Around} {s : Shared} {H : Hp} (z : Cz F WN G0 C0 0 (pR P w K mg base stk ["value", "names"] "is_one_of" (defScope s_is_one_of) a cdv A s H)) (n_isinstance : mg "isinstance" = none) (n_str : mg "str" = none) :
    PSs (pR P w K mg base stk ["value", "names"] "is_one_of" (defScope s_is_one_of) a cdv A s H) (defBody s_is_one_of) (tS F WN fb_is_one_of) := by
  unfold fb_is_one_of
  exact (p_sCons (p_sRet (p_and (p_isB z .str (by intro c h; cases h) n_isinstance n_str bt_str (p_var 0)) (p_one (p_cmp z (p_var 0) (p_var 1))))) p_sNil)
theorem sc_Hand_copy_main : FnScope ["self", "is_carried", "note"] ["self"] (defScope s_Hand_copy_main) := ⟨rfl, rfl, rfl, by decide +kernel, rfl, by decide +kernel, by decide +kernel⟩
theorem b_Hand_copy_main {F : Fx} {P : Program} {w : World} {K : PySem.W.Frag} {mg : Str → Option Value} {base : Heap} {stk : List Env} {a : Addr} {cdv : Value} {A : Around} {s : Shared} {H : Hp} (z : Cz F WN G0 C0 0 (pR P w K mg base stk ["self", "is_carried", "note"] "Hand.copy_main" (defScope s_Hand_copy_main) a cdv A s H)) (k_MAIN : GVal F mg "MAIN" w_MAIN) (k_SPARE : GVal F mg "SPARE" w_SPARE) (n_tuple : mg "tuple" = none) :
    PSs (pR P w K mg base stk ["self", "is_carried", "note"] "Hand.copy_main" (defScope s_Hand_copy_main) a cdv A s H) (defBody s_Hand_copy_main) (tS F WN fb_Hand_copy_main) := by
  unfold fb_Hand_copy_main
  exact (p_sCons (p_sSetI z (p_ix z (p_fld z noP0 (p_var 0)) (p_glo k_MAIN)) (p_fld z noP0 (p_var 0)) (p_glo k_SPARE)) (p_sCons (p_sSet (p_cmp z (p_fld z noP0 (p_fld z noP0 (p_var 0))) p_str) (p_tN z 1)) (p_sCons (p_sSetI z (b_tuple z n_tuple (p_lc z true [("note", 2)] (p_iPl z (p_ix z (p_fld z noP0 (p_var 0)) (p_glo k_MAIN))) (blkOk_by (by kernel_rfl)) (by decide) (fun _ _ _ _ _ => (p_tN (z.blk) 2)) (fun _ _ _ _ _ => p_ifs0) (fun _ _ _ _ _ => (p_tup (p_arg (p_ife (q_val (p_var 1)) (p_ix (z.blk) (p_var 2) p_int) p_non) (p_star (z.blk) (p_sl (z.blk) (p_var 2) (p_oSo p_int) p_oNo) p_nil)))))) (p_fld z noP0 (p_var 0)) (p_glo k_SPARE)) p_sNil)))
theorem sc_put_together : FnScope ["own", "index", "content", "many", "found"] ["own", "index", "content", "many"] (defScope s_put_together) := ⟨rfl, rfl, rfl, by decide +kernel, rfl, by decide +kernel, by decide +kernel⟩
theorem b_put_together {F : Fx} {P : Program} {w : World} {K : PySem.W.Frag} {mg : Str → Option Value} {base : Heap} {stk : List Env} {a : Addr} {cdv : Value} {A : Around} {s : Shared} {H : Hp} (z : Cz F WN G0 C0 1 (pR P w K mg base stk ["own", "index", "content", "many", "found"] "put_together" (defScope s_put_together) a cdv A s H)) (c_replaced : CalN F P w K mg base u_replaced 0 3 "replaced") :
    PSs (pR P w K mg base stk ["own", "index", "content", "many", "found"] "put_together" (defScope s_put_together) a cdv A s H) (defBody s_put_together) (tS F WN fb_put_together) := by
  unfold fb_put_together
  exact (p_sCons (p_sSet (p_callN z c_replaced (p_arg (p_ife (q_cmp z (p_var 0) p_non) (p_bin z true (p_tup (p_arg p_non p_nil)) (p_var 3)) (p_var 0)) (p_arg (p_var 1) (p_arg (p_var 2) p_nil)))) (p_tN z 4)) (p_sCons (p_sRet (p_ife (q_cmp z (p_var 4) (p_bin z true (p_tup (p_arg p_non p_nil)) (p_var 3))) p_non (p_var 4))) p_sNil))
theorem sc_Hand_do : FnScope ["self", "deed", "word", "contents", "index", "note"] ["self", "deed"] (defScope s_Hand_do) := ⟨rfl, rfl, rfl, by decide +kernel, rfl, by decide +kernel, by decide +kernel⟩
theorem b_Hand_do {F : Fx} {P : Program} {w : World} {K : PySem.W.Frag} {mg : Str → Option Value} {base : Heap} {stk : List Env} {a : Addr} {cdv : Value} {A : Around} {s : Shared} {H : Hp} (z : Cz F WN G0 C0 4 (pR P w K mg base stk ["self", "deed", "word", "contents", "index", "note"] "Hand.do" (defScope s_Hand_do) a cdv A s H)) (c_index_of : CalN F P w K mg base u_index_of 0 2 "index_of") (c_replaced : CalN F P w K mg base u_replaced 0 3 "replaced") (c_stale : CalN F P w K mg base u_stale 0 1 "stale") (k_COPY : GVal F mg "COPY" w_COPY) (k_NOTHING : GVal F mg "NOTHING" w_NOTHING) (k_SIGN : GVal F mg "SIGN" w_SIGN) (k_TAKE : GVal F mg "TAKE" w_TAKE) (k_UNSIGN : GVal F mg "UNSIGN" w_UNSIGN) (k_WRITE : GVal F mg "WRITE" w_WRITE) (n_tuple : mg "tuple" = none) (t_Hand_copy_main : MethN F P w K mg base u_Hand_copy_main G0 1 "copy_main" 0 1) (t_Hand_put_note : MethN F P w K mg base u_Hand_put_note G0 1 "put_note" 1 4) (t_Hand_take : MethN F P w K mg base u_Hand_take G0 1 "take" 3 2) :
    PSs (pR P w K mg base stk ["self", "deed", "word", "contents", "index", "note"] "Hand.do" (defScope s_Hand_do) a cdv A s H) (defBody s_Hand_do) (tS F WN fb_Hand_do) := by
  unfold fb_Hand_do
  exact (p_sCons (p_sSet (p_ix z (p_var 1) p_int) (p_tN z 2)) (p_sCons (p_sIf (q_cmp z (p_var 2) (p_glo k_COPY)) (p_sCons (p_sExp (p_meth0N z t_Hand_copy_main (p_var 0))) p_sNil) (p_sCons (p_sIf (q_cmp z (p_var 2) (p_glo k_TAKE)) (p_sCons (p_sExp (p_methN z t_Hand_take (p_var 0) (p_arg (p_ix z (p_var 1) p_int) p_nil))) p_sNil) (p_sCons (p_sIf (q_cmp z (p_var 2) (p_glo k_SIGN)) (p_sCons (p_sSet (p_ix z (p_fld z noP0 (p_var 0)) (p_ix z (p_var 1) p_int)) (p_tN z 3)) (p_sCons (p_sExp (p_methN z t_Hand_put_note (p_var 0) (p_arg (p_ix z (p_var 1) p_int) (p_arg (p_ix z (p_var 1) p_int) (p_arg (p_tup (p_arg (p_tup (p_arg (p_var 3) (p_arg p_bl p_nil))) (p_arg (p_var 3) (p_arg (p_var 3) p_nil)))) p_nil))))) p_sNil)) (p_sCons (p_sIf (q_cmp z (p_var 2) (p_glo k_UNSIGN)) (p_sCons (p_sExp (p_methN z t_Hand_put_note (p_var 0) (p_arg (p_ix z (p_var 1) p_int) (p_arg (p_ix z (p_var 1) p_int) (p_arg (p_glo k_NOTHING) p_nil))))) p_sNil) (p_sCons (p_sIf (q_cmp z (p_var 2) (p_glo k_WRITE)) (p_sCons (p_sSet (p_callN z c_index_of (p_arg (p_fld z noP0 (p_fld z noP0 (p_var 0))) (p_arg (p_ix z (p_var 1) p_int) p_nil))) (p_tN z 4)) (p_sCons (p_sSetI z (p_callN z c_replaced (p_arg (p_ix z (p_fld z noP0 (p_var 0)) (p_ix z (p_var 1) p_int)) (p_arg (p_var 4) (p_arg (p_ix z (p_var 1) p_int) p_nil)))) (p_fld z noP0 (p_var 0)) (p_ix z (p_var 1) p_int)) (p_sCons (p_sSetI z (b_tuple z n_tuple (p_lc z true [("note", 5)] (p_iPl z (p_ix z (p_fld z noP0 (p_var 0)) (p_ix z (p_var 1) p_int))) (blkOk_by (by kernel_rfl)) (by decide) (fun _ _ _ _ _ => (p_tN (z.blk) 5)) (fun _ _ _ _ _ => p_ifs0) (fun _ _ _ _ _ => (p_callN (z.blk) c_stale (p_arg (p_var 5) p_nil))))) (p_fld z noP0 (p_var 0)) (p_ix z (p_var 1) p_int)) p_sNil))) p_sNil) p_sNil)) p_sNil)) p_sNil)) p_sNil)) p_sNil))
theorem sc_led_to : FnScope ["book", "standing", "deed", "hand"] ["book", "standing", "deed"] (defScope s_led_to) := ⟨rfl, rfl, rfl, by decide +kernel, rfl, by decide +kernel, by decide +kernel⟩
theorem b_led_to {F : Fx} {P : Program} {w : World} {K : PySem.W.Frag} {mg : Str → Option Value} {base : Heap} {stk : List Env} {a : Addr} {cdv : Value} {A : Around} {s : Shared} {H : Hp} (z : Cz F WN G0 C0 5 (pR P w K mg base stk ["book", "standing", "deed", "hand"] "led_to" (defScope s_led_to) a cdv A s H)) (m_Hand : MakeN F P w K mg base u_Hand___init__ G0 1 0 2 "Hand") (t_Hand_can_be : MethN F P w K mg base u_Hand_can_be G0 1 "can_be" 2 2) (t_Hand_do : MethN F P w K mg base u_Hand_do G0 1 "do" 4 2) (t_Hand_standing : MethN F P w K mg base u_Hand_standing G0 1 "standing" 0 1) :
    PSs (pR P w K mg base stk ["book", "standing", "deed", "hand"] "led_to" (defScope s_led_to) a cdv A s H) (defBody s_led_to) (tS F WN fb_led_to) := by
  unfold fb_led_to
  exact (p_sCons (p_sSet (p_makeN z m_Hand (p_arg (p_var 0) (p_arg (p_var 1) p_nil))) (p_tN z 3)) (p_sCons (p_sIf (q_not (q_val (p_methN z t_Hand_can_be (p_var 3) (p_arg (p_var 2) p_nil)))) (p_sCons (p_sRet p_non) p_sNil) p_sNil) (p_sCons (p_sExp (p_methN z t_Hand_do (p_var 3) (p_arg (p_var 2) p_nil))) (p_sCons (p_sRet (p_meth0N z t_Hand_standing (p_var 3))) p_sNil))))
theorem sc_is_person : FnScope ["parts", "value"] ["parts", "value"] (defScope s_is_person) := ⟨rfl, rfl, rfl, by decide +kernel, rfl, by decide +kernel, by decide +kernel⟩
theorem b_is_person {F : Fx} {P : Program} {w : World} {K : PySem.W.Frag} {mg : Str → Option Value} {base : Heap} {stk : List Env} {a : Addr} {cdv : Value} {A : Around} {s : Shared} {H : Hp} (z : Cz F WN G0 C0 1 (pR P w K mg base stk ["parts", "value"] "is_person" (defScope s_is_person) a cdv A s H)) (c_are_of : CalN F P w K mg base u_are_of 0 2 "are_of") (c_is_binding : CalN F P w K mg base u_is_binding 0 1 "is_binding") (n_isinstance : mg "isinstance" = none) (n_len : mg "len" = none) (n_list : mg "list" = none) (n_tuple : mg "tuple" = none) :
    PSs (pR P w K mg base stk ["parts", "value"] "is_person" (defScope s_is_person) a cdv A s H) (defBody s_is_person) (tS F WN fb_is_person) := by
  unfold fb_is_person
  exact (p_sCons (p_sIf (PW.pt (q_or (q_not (q_val (p_isB z .tuple (by intro c h; cases h) n_isinstance n_tuple bt_tuple (p_var 1)))) (q_or (q_cmp z (b_len z n_len (p_var 1)) p_int) (q_or1 (q_not (q_val (p_callN z c_is_binding (p_arg (p_ix z (p_var 1) p_int) p_nil)))))))) (p_sCons (p_sRet p_bl) p_sNil) p_sNil) (p_sCons (p_sRet (p_and (p_callN z c_are_of (p_arg (p_ix z (p_var 1) p_int) (p_arg (b_list z true n_list (p_var 0)) p_nil))) (p_one (p_cmp z (b_len z n_len (p_ix z (p_var 1) p_int)) p_int)))) p_sNil))
theorem sc_Book___init__ : FnScope ["self", "parts", "people", "contents", "copying", "taking", "words", "word", "name"] ["self", "parts", "people", "contents", "copying", "taking", "words"] (defScope s_Book___init__) := ⟨rfl, rfl, rfl, by decide +kernel, rfl, by decide +kernel, by decide +kernel⟩
theorem b_Book___init__ {F : Fx} {P : Program} {w : World} {K : PySem.W.Frag} {mg : Str → Option Value} {base : Heap} {stk : List Env} {a : Addr} {cdv : Value} {A : Around} {s : Shared} {H : Hp} (z : Cz F WN G0 C0 3 (pR P w K mg base stk ["self", "parts", "people", "contents", "copying", "taking", "words", "word", "name"] "Book.__init__" (defScope s_Book___init__) a cdv A s H)) (c_are_of : CalN F P w K mg base u_are_of 0 2 "are_of") (c_are_parts : CalN F P w K mg base u_are_parts 1 1 "are_parts") (c_is_integer : CalN F P w K mg base u_is_integer 0 1 "is_integer") (c_look_at_people : CalN F P w K mg base u_look_at_people 2 2 "look_at_people") (k_MANNERS : GVal F mg "MANNERS" w_MANNERS) (k_WORDS : GVal F mg "WORDS" w_WORDS) (n_isinstance : mg "isinstance" = none) (n_list : mg "list" = none) (n_sorted : mg "sorted" = none) (n_str : mg "str" = none) :
    PSs (pR P w K mg base stk ["self", "parts", "people", "contents", "copying", "taking", "words", "word", "name"] "Book.__init__" (defScope s_Book___init__) a cdv A s H) (defBody s_Book___init__) (tS F WN fb_Book___init__) := by
  unfold fb_Book___init__
  exact (p_sCons (p_sIf (q_not (q_val (p_callN z c_are_parts (p_arg (p_var 1) p_nil)))) (p_sCons p_sNo p_sNil) p_sNil) (p_sCons (p_sExp (p_callN z c_look_at_people (p_arg (p_var 1) (p_arg (p_var 2) p_nil)))) (p_sCons (p_sIf (PW.pt (q_or (q_not (q_val (p_callN z c_is_integer (p_arg (p_var 3) p_nil)))) (q_or1 (q_cmp z (p_var 3) (p_tup (p_arg p_int (p_arg p_int p_nil))))))) (p_sCons p_sNo p_sNil) p_sNil) (p_sCons (p_sFor z (p_iPl z (p_tup (p_arg (p_var 4) (p_arg (p_var 5) p_nil)))) (p_tN z 7) (p_sCons (p_sIf (PW.pt (q_or (q_not (q_val (p_isB z .str (by intro c h; cases h) n_isinstance n_str bt_str (p_var 7)))) (q_or1 (q_cmp z (p_var 7) (p_glo k_MANNERS))))) (p_sCons p_sNo p_sNil) p_sNil) p_sNil)) (p_sCons (p_sIf (q_not (q_val (p_callN z c_are_of (p_arg (p_var 6) (p_arg (p_glo k_WORDS) p_nil))))) (p_sCons p_sNo p_sNil) p_sNil) (p_sCons (p_sSetA z (p_dc z true [("name", 8)] (p_iPl z (b_sorted z true n_sorted (b_list z true n_list (p_var 1)))) (blkOk_by (by kernel_rfl)) (by decide) (fun _ _ _ _ _ => (p_tN (z.blk) 8)) (fun _ _ _ _ _ => p_ifs0) (fun _ _ _ _ _ => (p_var 8)) (fun _ _ _ _ _ => (p_ix (z.blk) (p_var 1) (p_var 8)))) (p_var 0)) (p_sCons (p_sSetA z (p_dc z true [("name", 8)] (p_iPl z (b_sorted z true n_sorted (b_list z true n_list (p_var 2)))) (blkOk_by (by kernel_rfl)) (by decide) (fun _ _ _ _ _ => (p_tN (z.blk) 8)) (fun _ _ _ _ _ => p_ifs0) (fun _ _ _ _ _ => (p_var 8)) (fun _ _ _ _ _ => (p_ix (z.blk) (p_var 2) (p_var 8)))) (p_var 0)) (p_sCons (p_sSetA z (p_var 3) (p_var 0)) (p_sCons (p_sSetA z (p_var 4) (p_var 0)) (p_sCons (p_sSetA z (p_var 5) (p_var 0)) (p_sCons (p_sSetA z (p_var 6) (p_var 0)) p_sNil)))))))))))
theorem sc_counting : FnScope ["record", "thing", "place"] ["record", "thing"] (defScope s_counting) := ⟨rfl, rfl, rfl, by decide +kernel, rfl, by decide +kernel, by decide +kernel⟩
theorem b_counting {F : Fx} {P : Program} {w : World} {K : PySem.W.Frag} {mg : Str → Option Value} {base : Heap} {stk : List Env} {a : Addr} {cdv : Value} {A : Around} {s : Shared} {H : Hp} (z : Cz F WN G0 C0 2 (pR P w K mg base stk ["record", "thing", "place"] "counting" (defScope s_counting) a cdv A s H)) (c_counting_at : CalN F P w K mg base u_counting_at 1 3 "counting_at") (c_look_at_thing : CalN F P w K mg base u_look_at_thing 1 2 "look_at_thing") (k_MAIN : GVal F mg "MAIN" w_MAIN) :
    PSs (pR P w K mg base stk ["record", "thing", "place"] "counting" (defScope s_counting) a cdv A s H) (defBody s_counting) (tS F WN fb_counting) := by
  unfold fb_counting
  exact (p_sCons (p_sExp (p_callN z c_look_at_thing (p_arg (p_var 0) (p_arg (p_var 1) p_nil)))) (p_sCons (p_sSet (p_ife (q_cmp z (p_var 1) (p_glo k_MAIN)) p_int p_int) (p_tN z 2)) (p_sCons (p_sRet (p_callN z c_counting_at (p_arg (p_fld z noP0 (p_var 0)) (p_arg (p_ix z (p_fld z noP0 (p_var 0)) (p_var 2)) (p_arg (p_ix z (p_fld z noP0 (p_var 0)) (p_bin z true (p_var 2) p_int)) p_nil))))) p_sNil)))
end Ms
set_option Elab.async false
set_option linter.all false
set_option maxRecDepth 100000
set_option maxHeartbeats 4000000
namespace Ms
open PySem PySem.Spec PyProof.Rows L2 Mp Mg

theorem sc_people_with : FnScope ["book", "notes", "is_good", "found", "index", "part", "pairs", "person", "note"] ["book", "notes", "is_good"] (defScope s_people_with) := ⟨rfl, rfl, rfl, by decide +kernel, rfl, by decide +kernel, by decide +kernel⟩
theorem b_people_with {F : Fx} {P : Program} {w : World} {K : PySem.W.Frag} {mg : Str → Option Value} {base : Heap} {stk : List Env} {a : Addr} {cdv : Value} {A : Around} {s : Shared} {H : Hp} {params : Arguments} {body : Expr} {sc : Scope} {x1 x2 y : Str} {fbl : FE} (z : Cz F WN G0 C0 1 (pR P w K mg base stk ["book", "notes", "is_good", "found", "index", "part", "pairs", "person", "note"] "people_with" (defScope s_people_with) a cdv A s H)) (n_enumerate : mg "enumerate" = none) (n_list : mg "list" = none) (n_zip : mg "zip" = none)
    (hclo : ∀ f n c vs, F.clo f n c vs → ∃ v, vs = [v] ∧ CloB base params body sc y f c v) (hL : LamC sc x1 x2 y)
    (hbind : ∀ (cl : List (Str × Addr)) (pm cv ctv u1 u2 : Value), bindArgs (PySem.W.kla_fn "<lambda>" lamQ params body sc cl pm cv ctv) ⟨[u1, u2], []⟩ = pure [(x1, u1), (x2, u2)])
    (hbody : ∀ (stk : List Env) (f c : Addr) (cl : List (Str × Addr)) (A : Around) (s : Shared) (H : Hp), Room (1 - 1) (A.deeper (PySem.W.envX lamQ sc s.heap.objs.size f (.ref c) cl)) → PE (lR P w K mg base stk [x1, x2, y] sc f c cl A s H) body (tE F WN fbl)) :
    PSs (pR P w K mg base stk ["book", "notes", "is_good", "found", "index", "part", "pairs", "person", "note"] "people_with" (defScope s_people_with) a cdv A s H) (defBody s_people_with) (tS F WN (fb_people_with fbl)) := by
  unfold fb_people_with
  exact (p_sCons (p_sSet (p_dict0 z false) (p_tN z 3)) (p_sCons (p_sFor z (p_iEn z rfl n_enumerate (p_fld z noP0 (p_var 0))) (p_tT z (p_gN z 4 ⟨rfl, by first | exact Or.inl rfl | exact Or.inr rfl, by first | exact Or.inl rfl | exact Or.inr rfl⟩ (p_gN z 5 ⟨rfl, by first | exact Or.inl rfl | exact Or.inr rfl, by first | exact Or.inl rfl | exact Or.inr rfl⟩ p_gNil))) (p_sCons (p_sSet (p_lz z true n_list n_zip (p_fld z noP0 (p_var 0)) (p_var 1)) (p_tN z 6)) (p_sCons (p_sSetI z (p_lc z true [("person", 7), ("note", 8)] (p_iPl z (p_var 6)) (blkOk_by (by kernel_rfl)) (by decide) (fun _ _ _ _ _ => (p_tT (z.blk) (p_gN (z.blk) 7 ⟨rfl, by first | exact Or.inl rfl | exact Or.inr rfl, by first | exact Or.inl rfl | exact Or.inr rfl⟩ (p_gN (z.blk) 8 ⟨rfl, by first | exact Or.inl rfl | exact Or.inr rfl, by first | exact Or.inl rfl | exact Or.inr rfl⟩ p_gNil)))) (fun _ _ _ _ _ => p_ifs1 (PW.pt (q_and (q_cmp (z.blk) (p_var 5) (p_ix (z.blk) (p_ix (z.blk) (p_fld (z.blk) noP0 (p_var 0)) (p_var 7)) p_int)) (q_and1 (q_val (p_callV (z.blk) 2 hclo hL (by decide) hbind hbody (p_arg (p_var 8) (p_arg (p_var 4) p_nil)))))))) (fun _ _ _ _ _ => (p_var 7))) (p_var 3) (p_var 5)) p_sNil))) (p_sCons (p_sRet (p_var 3)) p_sNil)))
theorem lamG {F : Fx} {P : Program} {w : World} {K : PySem.W.Frag} {mg : Str → Option Value} {base : Heap} {stk : List Env} {a : Addr} {A : Around} {s : Shared} {H : Hp} {c Pt g : Addr} {fd : FuncData} {params : Arguments} {body : Expr} {sc : Scope} {gp lpos pos : Pos} {e1 e2 : Expr} {f1 f2 fbl : FE}
    (z : Cz F WN G0 C0 3 (pR P w K mg base stk ["book", "thing", "contents", "notes", "have_meant", "seen"] "send_findings" (defScope s_send_findings) a (.ref c) A s H)) (hm : mg "people_with" = some (.ref g)) (F1 : FunD K "people_with" "people_with" (defArgs s_people_with) (defBody s_people_with) (defScope s_people_with) [] [] g fd) (hb : Binds K fd ["book", "notes", "is_good"] [])
    (cg : ClsG F K G0) (n_enumerate : mg "enumerate" = none) (n_list : mg "list" = none) (n_zip : mg "zip" = none) (TB : LamX.TabB base mg c Pt) (hT : Pt ∈ F.T)
    (L : LamC sc "note" "index" "contents") (hdef : defaultsOf params (pR P w K mg base stk ["book", "thing", "contents", "notes", "have_meant", "seen"] "send_findings" (defScope s_send_findings) a (.ref c) A s H).env = ([], []))
    (hbind : ∀ (cl : List (Str × Addr)) (pm cv ctv u1 u2 : Value), bindArgs (PySem.W.kla_fn "<lambda>" lamQ params body sc cl pm cv ctv) ⟨[u1, u2], []⟩ = pure ([("note", u1), ("index", u2)] : List (Str × Value)))
    (hbody : ∀ (clo : Addr → Nat → Addr → List V → Prop) (base : Heap) (stk : List Env) (f c : Addr) (cl : List (Str × Addr)) (A : Around) (s : Shared) (H : Hp), Room 0 (A.deeper (PySem.W.envX lamQ sc s.heap.objs.size f (.ref c) cl)) → PE (lR P w K mg base stk ["note", "index", "contents"] sc f c cl A s H) body (tE { F with clo := clo } WN fbl))
    (h1 : PE (pR P w K mg base stk ["book", "thing", "contents", "notes", "have_meant", "seen"] "send_findings" (defScope s_send_findings) a (.ref c) A s H) e1 (tE F WN f1)) (h2 : PE (pR P w K mg base stk ["book", "thing", "contents", "notes", "have_meant", "seen"] "send_findings" (defScope s_send_findings) a (.ref c) A s H) e2 (tE F WN f2))
    (he : starEach [e1, e2, .Lambda params body sc lpos] (pR P w K mg base stk ["book", "thing", "contents", "notes", "have_meant", "seen"] "send_findings" (defScope s_send_findings) a (.ref c) A s H).env = [(false, eval e1 (pR P w K mg base stk ["book", "thing", "contents", "notes", "have_meant", "seen"] "send_findings" (defScope s_send_findings) a (.ref c) A s H).env), (false, eval e2 (pR P w K mg base stk ["book", "thing", "contents", "notes", "have_meant", "seen"] "send_findings" (defScope s_send_findings) a (.ref c) A s H).env), (false, eval (.Lambda params body sc lpos) (pR P w K mg base stk ["book", "thing", "contents", "notes", "have_meant", "seen"] "send_findings" (defScope s_send_findings) a (.ref c) A s H).env)] := by rfl)
    (he' : starEach [e1, e2, .Lambda params body sc lpos] (pR P w K mg base stk ["book", "thing", "contents", "notes", "have_meant", "seen"] "send_findings" (defScope s_send_findings) a (.ref c) A s H).env = (false, eval e1 (pR P w K mg base stk ["book", "thing", "contents", "notes", "have_meant", "seen"] "send_findings" (defScope s_send_findings) a (.ref c) A s H).env) :: starEach [e2, .Lambda params body sc lpos] (pR P w K mg base stk ["book", "thing", "contents", "notes", "have_meant", "seen"] "send_findings" (defScope s_send_findings) a (.ref c) A s H).env := by rfl)
    (hpl : (backTo pos (starEach [e2, .Lambda params body sc lpos] (pR P w K mg base stk ["book", "thing", "contents", "notes", "have_meant", "seen"] "send_findings" (defScope s_send_findings) a (.ref c) A s H).env)).any (·.1) = false := by rfl) :
    PE (pR P w K mg base stk ["book", "thing", "contents", "notes", "have_meant", "seen"] "send_findings" (defScope s_send_findings) a (.ref c) A s H) (.Call (.Name "people_with" gp) [e1, e2, .Lambda params body sc lpos] [] pos) (tE F WN (fLam f1 f2 2 9 (fb_people_with fbl))) := by
  obtain ⟨oc, od, dV, kV, doc, pm, an, cdv, ct, osl, rfl, lk, hcd, hD, hK⟩ := F1.ex
  refine p_lam (Ng := ["book", "notes", "is_good", "found", "index", "part", "pairs", "person", "note"]) z 2 (by decide) hm F1.kp lk hcd hb sc_people_with rfl L TB rfl rfl hT hdef rfl rfl rfl (fun base' clo hclo stk A s H rm => ?_) h1 h2 rfl (by decide) he he' hpl
  exact b_people_with (cz_of z.ok.k z.ok.w ⟨cg.eqn, cg.cls⟩ sc_people_with.nd (rm.mono (by decide)) rfl rfl) n_enumerate n_list n_zip hclo L hbind fun stk f c cl A s H rm => hbody clo base' stk f c cl A s H rm
theorem sc_send_findings : FnScope ["book", "thing", "contents", "notes", "have_meant", "seen"] ["book", "thing", "contents", "notes"] (defScope s_send_findings) := ⟨rfl, rfl, rfl, by decide +kernel, rfl, by decide +kernel, by decide +kernel⟩
theorem b_send_findings {F : Fx} {P : Program} {w : World} {K : PySem.W.Frag} {mg : Str → Option Value} {base : Heap} {stk : List Env} {a : Addr} {A : Around} {s : Shared} {H : Hp} {c Pt g : Addr} {fd : FuncData} (z : Cz F WN G0 C0 3 (pR P w K mg base stk ["book", "thing", "contents", "notes", "have_meant", "seen"] "send_findings" (defScope s_send_findings) a (.ref c) A s H)) (hk : F.K = K) (hw : F.w = w) (hm : mg "people_with" = some (.ref g)) (F1 : FunD K "people_with" "people_with" (defArgs s_people_with) (defBody s_people_with) (defScope s_people_with) [] [] g fd) (hb : Binds K fd ["book", "notes", "is_good"] [])
    (cg : ClsG F K G0) (c_goes_out : CalN F P w K mg base u_goes_out 2 3 "goes_out") (c_has_enough : CalN F P w K mg base u_has_enough 0 2 "has_enough") (n_enumerate : mg "enumerate" = none) (n_list : mg "list" = none) (n_zip : mg "zip" = none) (TB : LamX.TabB base mg c Pt) (hT : Pt ∈ F.T) : PSs (pR P w K mg base stk ["book", "thing", "contents", "notes", "have_meant", "seen"] "send_findings" (defScope s_send_findings) a (.ref c) A s H) (defBody s_send_findings) (tS F WN fb_send_findings) := by
  unfold fb_send_findings
  exact (p_sCons (p_sSet (p_callN z c_has_enough (p_arg (p_var 0) (p_arg (lamG z hm F1 hb cg n_enumerate n_list n_zip TB hT ⟨rfl, rfl, rfl, rfl, rfl, rfl, by decide +kernel, by decide +kernel, by decide⟩ rfl (fun _ _ _ _ _ _ => rfl) (fun clo base stk f c cl A s H rm => by
    have z : Cz { F with clo := clo } WN G0 C0 0 (lR P w K mg base stk ["note", "index", "contents"] _ f c cl A s H) := cz_of hk hw ⟨cg.eqn, cg.cls⟩ (show (["note", "index", "contents"] : List Str).Nodup from by decide) rm rfl rfl
    exact (p_cmp z (p_ix z (p_var 0) p_int) (p_var 2))) (p_var 0) (p_var 3)) p_nil))) (p_tN z 4)) (p_sCons (p_sIf (q_not (q_val (p_callN z c_goes_out (p_arg (p_var 0) (p_arg (p_var 2) (p_arg (p_var 3) p_nil)))))) (p_sCons (p_sRet (p_ife (q_val (p_var 4)) (p_lst true (p_arg (p_tup (p_arg p_str (p_arg (p_var 1) p_nil))) p_nil)) (p_lst true p_nil))) p_sNil) p_sNil) (p_sCons (p_sSet (lamG z hm F1 hb cg n_enumerate n_list n_zip TB hT ⟨rfl, rfl, rfl, rfl, rfl, rfl, by decide +kernel, by decide +kernel, by decide⟩ rfl (fun _ _ _ _ _ _ => rfl) (fun clo base stk f c cl A s H rm => by
    have z : Cz { F with clo := clo } WN G0 C0 0 (lR P w K mg base stk ["note", "index", "contents"] _ f c cl A s H) := cz_of hk hw ⟨cg.eqn, cg.cls⟩ (show (["note", "index", "contents"] : List Str).Nodup from by decide) rm rfl rfl
    exact (p_and (p_cmp z (p_ix z (p_var 0) p_int) p_non) (p_one (p_cmp z (p_ix z (p_ix z (p_var 0) p_int) (p_var 1)) (p_ix z (p_var 2) (p_var 1)))))) (p_var 0) (p_var 3)) (p_tN z 5)) (p_sCons (p_sIf (q_not (q_val (p_callN z c_has_enough (p_arg (p_var 0) (p_arg (p_var 5) p_nil))))) (p_sCons (p_sRet (p_lst true (p_arg (p_tup (p_arg p_str (p_arg (p_var 1) p_nil))) p_nil))) p_sNil) p_sNil) (p_sCons (p_sRet (p_ife (q_val (p_var 4)) (p_lst true p_nil) (p_lst true (p_arg (p_tup (p_arg p_str (p_arg (p_var 1) p_nil))) p_nil)))) p_sNil)))))
end Ms
set_option Elab.async false
set_option linter.all false
set_option maxRecDepth 100000
set_option maxHeartbeats 4000000
namespace Ms
open PySem PySem.Spec PyProof.Rows L2 Mp Mg

theorem sc_subsets : GScope ["things", "many", "place", "rest"] ["things", "many"] (defScope s_subsets) := ⟨rfl, rfl, rfl, by decide +kernel, rfl, by decide +kernel, by decide +kernel⟩
def gq : Sg → Store → Out Bool := qT (fBin (cmpop G0 C0 .Eq) (fVar 1) (fCon (.int 0)))
def gy : FE := (fTup fNil)
def gi : FI := (iRa (fBin (binop true .Add) (fBin (binop true .Sub) (fApp (fOne (fVar 0) fNil) gLen) (fVar 1)) (fCon (.int 1))))
def gr : FA := (fOne (fSl (fVar 0) (oSo (fBin (binop true .Add) (fVar 2) (fCon (.int 1)))) oNo) (fOne (fBin (binop true .Sub) (fVar 1) (fCon (.int 1))) fNil))
def gy2 : FE := (fTup (fOne (fBin ixW (fVar 0) (fVar 2)) (fStar (fVar 3) fNil)))
theorem subs_ok {F : Fx} {P : Program} {w : World} {K : PySem.W.Frag} {mg : Str → Option Value} {base : Heap} {a : Addr} {fd : FuncData} (F1 : FunD K "subsets" "subsets" (defArgs s_subsets) (defBody s_subsets) (defScope s_subsets) [] [] a fd) (hb : Binds K fd ["things", "many"] []) (hm : mg "subsets" = some (.ref a)) (hk : F.K = K) (hw : F.w = w) (cg : ClsG F K G0) (n_len : mg "len" = none) (n_range : mg "range" = none) :
    ∃ cdv test ye yp p1 p2 p3 tg1 it1 tg2 x p cp e es ye2 yp2 p4 p5 p6, SubG F P w K mg base 0 ["things", "many", "place", "rest"] ["things", "many"] "subsets" (defScope s_subsets) a cdv test ye yp p1 p2 p3 (rest1 tg1 it1 tg2 x p cp e es ye2 yp2 p4 p5 p6) gq gy ∧
      SubH F P w K mg base 0 ["things", "many", "place", "rest"] "subsets" (defScope s_subsets) a cdv tg1 it1 tg2 x p cp e es ye2 gi (.n 2) (.n 3) [2] [3] gr gy2 := by
  obtain ⟨oc, od, dV, kV, doc, pm, an, cdv, ct, osl, rfl, lk, hcd, hD, hK⟩ := F1.ex
  refine ⟨cdv, _, _, _, _, _, _, _, _, _, _, _, _, _, _, _, _, _, _, _, ⟨⟨sc_subsets, ⟨_, _, _, _, _, _, _, _, _, _, _, lk, hb⟩, hcd, F1.kp⟩, fun _ => rfl,
    (fun st A s H rm => by
    have z : Cz F WN G0 C0 0 (gR P w K mg base st ["things", "many", "place", "rest"] "subsets" (defScope s_subsets) a cdv A s H) := cz_of hk hw cg sc_subsets.nd rm rfl rfl
    exact (q_cmp z (p_var 1) p_int)),
    (fun st A s H rm => by
    have z : Cz F WN G0 C0 0 (gR P w K mg base st ["things", "many", "place", "rest"] "subsets" (defScope s_subsets) a cdv A s H) := cz_of hk hw cg sc_subsets.nd rm rfl rfl
    exact (p_tup p_nil))⟩, ⟨(fun st A s H rm => by
    have z : Cz F WN G0 C0 0 (gR P w K mg base st ["things", "many", "place", "rest"] "subsets" (defScope s_subsets) a cdv A s H) := cz_of hk hw cg sc_subsets.nd rm rfl rfl
    exact (p_iRa rfl n_range (p_bin z true (p_bin z true (b_len z n_len (p_var 0)) (p_var 1)) p_int))),
    (fun st A s H rm => by
    have z : Cz F WN G0 C0 0 (gR P w K mg base st ["things", "many", "place", "rest"] "subsets" (defScope s_subsets) a cdv A s H) := cz_of hk hw cg sc_subsets.nd rm rfl rfl
    exact (p_tN z 2)),
    (fun st A s H rm => by
    have z : Cz F WN G0 C0 0 (gR P w K mg base st ["things", "many", "place", "rest"] "subsets" (defScope s_subsets) a cdv A s H) := cz_of hk hw cg sc_subsets.nd rm rfl rfl
    exact (p_arg (p_sl z (p_var 0) (p_oSo (p_bin z true (p_var 2) p_int)) p_oNo) (p_arg (p_bin z true (p_var 1) p_int) p_nil))),
    (fun st A s H rm => by
    have z : Cz F WN G0 C0 0 (gR P w K mg base st ["things", "many", "place", "rest"] "subsets" (defScope s_subsets) a cdv A s H) := cz_of hk hw cg sc_subsets.nd rm rfl rfl
    exact (p_tN z 3)),
    (fun st A s H rm => by
    have z : Cz F WN G0 C0 0 (gR P w K mg base st ["things", "many", "place", "rest"] "subsets" (defScope s_subsets) a cdv A s H) := cz_of hk hw cg sc_subsets.nd rm rfl rfl
    exact (p_tup (p_arg (p_ix z (p_var 0) (p_var 2)) (p_star z (p_var 3) p_nil)))),
    fun _ => rfl, hm, by decide, fun _ => rfl, fun _ => rfl, fun _ _ => rfl, fun _ _ => rfl⟩⟩
theorem subs_law : SubL ["things", "many", "place", "rest"] ["things", "many"] gq gy gy2 gi (.n 2) (.n 3) gr :=
  ⟨rfl, fun _ => rfl, fun _ => rfl, fun _ => rfl, fun a b => ⟨.int 0, [.int 1], [some (.lst [.str a, .str b]), some (.int 1), some (.int 0), none], [.str b], [some (.lst [.str a, .str b]), some (.int 1), some (.int 0), some (.tup [])], by kernel_rfl, rfl, by kernel_rfl, rfl, rfl, by kernel_rfl⟩⟩
theorem sc_asks : FnScope ["record", "thing", "names", "many", "some", "hand", "person"] ["record", "thing"] (defScope s_asks) := ⟨rfl, rfl, rfl, by decide +kernel, rfl, by decide +kernel, by decide +kernel⟩
theorem sub_for {F : Fx} {P : Program} {w : World} {K : PySem.W.Frag} {mg : Str → Option Value} {base : Heap} {stk : List Env} {b a : Addr} {cdv : Value} {A : Around} {s : Shared} {H : Hp} {fd : FuncData} {q0 cp0 pos0 : Pos} {e0 : Expr} {es0 : List Expr} {tg : Expr} {t : Tg} {is : List Nat} {body : List Stmt} {r : FA} {fb : FS}
    (z : Cz F WN G0 C0 5 (pR P w K mg base stk ["record", "thing", "names", "many", "some", "hand", "person"] "asks" (defScope s_asks) a cdv A s H)) (F1 : FunD K "subsets" "subsets" (defArgs s_subsets) (defBody s_subsets) (defScope s_subsets) [] [] b fd) (hb : Binds K fd ["things", "many"] []) (hm : mg "subsets" = some (.ref b)) (hk : F.K = K) (hw : F.w = w) (cg : ClsG F K G0) (n_len : mg "len" = none) (n_range : mg "range" = none)
    (ha : PA (pR P w K mg base stk ["record", "thing", "names", "many", "some", "hand", "person"] "asks" (defScope s_asks) a cdv A s H) (e0 :: es0) (tL F WN r)) (hg : PG (pR P w K mg base stk ["record", "thing", "names", "many", "some", "hand", "person"] "asks" (defScope s_asks) a cdv A s H) tg (tGW F is fun w σ M => asgT t w σ M)) (hbd : PSs (pR P w K mg base stk ["record", "thing", "names", "many", "some", "hand", "person"] "asks" (defScope s_asks) a cdv A s H) body (tS F WN fb))
    (he : starEach (e0 :: es0) (pR P w K mg base stk ["record", "thing", "names", "many", "some", "hand", "person"] "asks" (defScope s_asks) a cdv A s H).env = (false, eval e0 (pR P w K mg base stk ["record", "thing", "names", "many", "some", "hand", "person"] "asks" (defScope s_asks) a cdv A s H).env) :: starEach es0 (pR P w K mg base stk ["record", "thing", "names", "many", "some", "hand", "person"] "asks" (defScope s_asks) a cdv A s H).env := by rfl) (hpl : (backTo cp0 (starEach es0 (pR P w K mg base stk ["record", "thing", "names", "many", "some", "hand", "person"] "asks" (defScope s_asks) a cdv A s H).env)).any (·.1) = false := by rfl) (hs : ∀ y, foldedSetIterable (.Call (.Name "subsets" q0) (e0 :: es0) [] cp0) (pR P w K mg base stk ["record", "thing", "names", "many", "some", "hand", "person"] "asks" (defScope s_asks) a cdv A s H).env y = pure y := by intro _; rfl) :
    PS (pR P w K mg base stk ["record", "thing", "names", "many", "some", "hand", "person"] "asks" (defScope s_asks) a cdv A s H) (.For tg (.Call (.Name "subsets" q0) (e0 :: es0) [] cp0) body [] pos0) (tS F WN (sSub t r fb)) := by
  obtain ⟨cdv', test, ye, yp, p1, p2, p3, tg1, it1, tg2, x, p, cp, e, es, ye2, yp2, p4, p5, p6, S, T⟩ := subs_ok (P := P) (w := w) (base := base) (F := F) F1 hb hm hk hw cg n_len n_range
  exact s_sub S T subs_law (z.rm.mono (by decide)) PassesOwn.never hm ha hg hbd rfl (by decide) he hpl hs
theorem b_asks {F : Fx} {P : Program} {w : World} {K : PySem.W.Frag} {mg : Str → Option Value} {base : Heap} {stk : List Env} {a : Addr} {cdv : Value} {A : Around} {s : Shared} {H : Hp} {b : Addr} {fd : FuncData} (z : Cz F WN G0 C0 5 (pR P w K mg base stk ["record", "thing", "names", "many", "some", "hand", "person"] "asks" (defScope s_asks) a cdv A s H)) (F1 : FunD K "subsets" "subsets" (defArgs s_subsets) (defBody s_subsets) (defScope s_subsets) [] [] b fd) (hb : Binds K fd ["things", "many"] []) (hm : mg "subsets" = some (.ref b)) (hk : F.K = K) (hw : F.w = w) (cg : ClsG F K G0) (c_is_sent : CalN F P w K mg base u_is_sent 3 3 "is_sent") (c_look_at_thing : CalN F P w K mg base u_look_at_thing 1 2 "look_at_thing") (k_SIGN : GVal F mg "SIGN" w_SIGN) (m_Hand : MakeN F P w K mg base u_Hand___init__ G0 1 0 2 "Hand") (n_len : mg "len" = none) (n_list : mg "list" = none) (n_range : mg "range" = none) (t_Hand_do : MethN F P w K mg base u_Hand_do G0 1 "do" 4 2) (t_Hand_standing : MethN F P w K mg base u_Hand_standing G0 1 "standing" 0 1) :
    PSs (pR P w K mg base stk ["record", "thing", "names", "many", "some", "hand", "person"] "asks" (defScope s_asks) a cdv A s H) (defBody s_asks) (tS F WN fb_asks) := by
  unfold fb_asks
  exact (p_sCons (p_sExp (p_callN z c_look_at_thing (p_arg (p_var 0) (p_arg (p_var 1) p_nil)))) (p_sCons (p_sSet (b_list z true n_list (p_fld z noP0 (p_fld z noP0 (p_var 0)))) (p_tN z 2)) (p_sCons (p_sFor z (p_iRa rfl n_range (p_bin z true (b_len z n_len (p_var 2)) p_int)) (p_tN z 3) (p_sCons (sub_for z F1 hb hm hk hw cg n_len n_range (p_arg (p_var 2) (p_arg (p_var 3) p_nil)) (p_tN z 4) (p_sCons (p_sSet (p_makeN z m_Hand (p_arg (p_fld z noP0 (p_var 0)) (p_arg (p_fld z noP0 (p_var 0)) p_nil))) (p_tN z 5)) (p_sCons (p_sFor z (p_iPl z (p_var 4)) (p_tN z 6) (p_sCons (p_sExp (p_methN z t_Hand_do (p_var 5) (p_arg (p_tup (p_arg (p_glo k_SIGN) (p_arg (p_var 6) (p_arg (p_var 1) p_nil)))) p_nil))) p_sNil)) (p_sCons (p_sIf (q_val (p_callN z c_is_sent (p_arg (p_fld z noP0 (p_var 0)) (p_arg (p_meth0N z t_Hand_standing (p_var 5)) (p_arg (p_var 1) p_nil))))) (p_sCons (p_sRet (p_var 4)) p_sNil) p_sNil) p_sNil)))) p_sNil)) (p_sCons (p_sRet p_non) p_sNil))))
end Ms
set_option Elab.async false
set_option linter.all false
set_option maxRecDepth 100000
set_option maxHeartbeats 4000000
namespace Ms
open PySem PySem.Spec PyProof.Rows L2 Mp Mg

theorem p_callP {F : Fx} {Wx : WX} {G : Gm} {C : Orc} {lv : Nat} {X : Cx} {x : Str} {p pos : Pos} {e : Expr} {es : List Expr} {r : FA} (z : Cz F Wx G C lv X) {u : List W → Store → Out W} {n np : Nat} (d : CalN F X.prog X.w X.K X.mg X.base u n np x) (ha : PA X (e :: es) (tL F Wx r)) (hn : n + 1 ≤ lv := by decide) (hg : Gl X x := by rfl) (hdb : (x == ("__debug__" : Str)) = false := by decide)
    (he : starEach (e :: es) X.env = (false, eval e X.env) :: starEach es X.env := by rfl) (hpl : (backTo pos (starEach es X.env)).any (·.1) = false := by rfl) : PE X (.Call (.Name x p) (e :: es) [] pos) (tE F Wx (fCall true n u r)) := by
  obtain ⟨k, hm, d⟩ := d
  exact p_call z true d hm ha hn hg hdb he hpl
theorem sc__law_pieces : FnScope ["_law_n", "_law_binding", "_law_copying", "_law_taking", "_law_a", "_law_b", "_law_x", "_law_y", "_law_deeds", "_law_told"] ["_law_n", "_law_binding", "_law_copying", "_law_taking"] (defScope s__law_pieces) := ⟨rfl, rfl, rfl, by decide +kernel, rfl, by decide +kernel, by decide +kernel⟩
theorem b__law_pieces {F : Fx} {P : Program} {w : World} {K : PySem.W.Frag} {mg : Str → Option Value} {base : Heap} {stk : List Env} {a : Addr} {cdv : Value} {A : Around} {s : Shared} {H : Hp} (z : Cz F WN G1 C1 7 (pR P w K mg base stk ["_law_n", "_law_binding", "_law_copying", "_law_taking", "_law_a", "_law_b", "_law_x", "_law_y", "_law_deeds", "_law_told"] "_law_pieces" (defScope s__law_pieces) a cdv A s H)) (c__law_book_of : CalN F P w K mg base u__law_book_of 5 4 "_law_book_of") (c_replay : CalN F P w K mg base u_replay 6 2 "replay") (hP : ∀ (x : Str) c i n, G1.cls c = some i → lookS x i.props = some n → PropN F P w K mg base C1 c x n ∧ n + 2 ≤ 7) :
    PSs (pR P w K mg base stk ["_law_n", "_law_binding", "_law_copying", "_law_taking", "_law_a", "_law_b", "_law_x", "_law_y", "_law_deeds", "_law_told"] "_law_pieces" (defScope s__law_pieces) a cdv A s H) (defBody s__law_pieces) (tS F WN fb__law_pieces) := by
  unfold fb__law_pieces
  exact (p_sCons (p_sSet (p_var 0) (p_tT z (p_gN z 4 ⟨rfl, by first | exact Or.inl rfl | exact Or.inr rfl, by first | exact Or.inl rfl | exact Or.inr rfl⟩ (p_gN z 5 ⟨rfl, by first | exact Or.inl rfl | exact Or.inr rfl, by first | exact Or.inl rfl | exact Or.inr rfl⟩ (p_gN z 6 ⟨rfl, by first | exact Or.inl rfl | exact Or.inr rfl, by first | exact Or.inl rfl | exact Or.inr rfl⟩ (p_gN z 7 ⟨rfl, by first | exact Or.inl rfl | exact Or.inr rfl, by first | exact Or.inl rfl | exact Or.inr rfl⟩ p_gNil)))))) (p_sCons (p_sSet (p_lst true (p_arg (p_tup (p_arg p_str p_nil)) (p_arg (p_tup (p_arg p_str (p_arg p_str (p_arg (p_var 7) (p_arg p_int p_nil))))) (p_arg (p_tup (p_arg p_str (p_arg (p_var 4) (p_arg p_str p_nil)))) (p_arg (p_tup (p_arg p_str (p_arg (p_var 5) (p_arg p_str p_nil)))) (p_arg (p_tup (p_arg p_str (p_arg (p_var 7) p_nil))) p_nil)))))) (p_tN z 8)) (p_sCons (p_sSet (p_callN z c_replay (p_arg (p_callN z c__law_book_of (p_arg (p_var 0) (p_arg (p_var 1) (p_arg (p_var 2) (p_arg (p_var 3) p_nil))))) (p_arg (p_bin z true (p_var 8) (p_lst true (p_arg (p_tup (p_arg p_str (p_arg p_str p_nil))) (p_arg (p_tup (p_arg p_str (p_arg (p_var 4) (p_arg p_str p_nil)))) p_nil)))) p_nil))) (p_tN z 9)) (p_sCons (p_sRet (p_lst true (p_arg (p_propN z (hP "sent") (p_var 9)) (p_arg (p_propN z (hP "found") (p_var 9)) (p_arg (p_ix z (p_ix z (p_ix z (p_propN z (hP "notes") (p_var 9)) p_str) (p_var 4)) p_int) (p_arg (p_ix z (p_ix z (p_propN z (hP "notes") (p_var 9)) p_str) (p_var 5)) p_nil)))))) p_sNil))))
theorem sc_law : FnScope ["_law_script", "_law_h", "_law_n", "_law_a", "_law_b", "_law_x", "_law_y", "_law_signed", "_law_taken", "_law_found", "_law_book", "_law_deeds", "_law_told", "_law_due", "_law_good"] ["_law_script"] (defScope s_law) := ⟨rfl, rfl, rfl, by decide +kernel, rfl, by decide +kernel, by decide +kernel⟩
theorem b_law {F : Fx} {P : Program} {w : World} {K : PySem.W.Frag} {mg : Str → Option Value} {base : Heap} {stk : List Env} {a : Addr} {cdv : Value} {A : Around} {s : Shared} {H : Hp} (z : Cz F WN G1 C1 8 (pR P w K mg base stk ["_law_script", "_law_h", "_law_n", "_law_a", "_law_b", "_law_x", "_law_y", "_law_signed", "_law_taken", "_law_found", "_law_book", "_law_deeds", "_law_told", "_law_due", "_law_good"] "law" (defScope s_law) a cdv A s H)) (c__law_book_of : CalN F P w K mg base u__law_book_of 5 4 "_law_book_of") (c__law_mix : CalN F P w K mg base u__law_mix 0 2 "_law_mix") (c__law_next : CalN F P w K mg base u__law_next 0 2 "_law_next") (c__law_pieces : CalN F P w K mg base u__law_pieces 7 4 "_law_pieces") (c_asks : CalN F P w K mg base u_asks 5 2 "asks") (c_counting : CalN F P w K mg base u_counting 2 2 "counting") (c_replay : CalN F P w K mg base u_replay 6 2 "replay") (hP : ∀ (x : Str) c i n, G1.cls c = some i → lookS x i.props = some n → PropN F P w K mg base C1 c x n ∧ n + 2 ≤ 8) :
    PSs (pR P w K mg base stk ["_law_script", "_law_h", "_law_n", "_law_a", "_law_b", "_law_x", "_law_y", "_law_signed", "_law_taken", "_law_found", "_law_book", "_law_deeds", "_law_told", "_law_due", "_law_good"] "law" (defScope s_law) a cdv A s H) (defBody s_law) (tS F WN fb_law) := by
  unfold fb_law
  exact (p_sCons (p_sSet (p_callN z c__law_mix (p_arg (p_var 0) (p_arg p_int p_nil))) (p_tN z 1)) (p_sCons (p_sSet (p_ix z (p_lst true (p_arg (p_tup (p_arg p_str (p_arg p_str (p_arg p_str (p_arg p_str p_nil))))) (p_arg (p_tup (p_arg p_str (p_arg p_str (p_arg p_str (p_arg p_str p_nil))))) p_nil))) (p_callN z c__law_next (p_arg (p_var 1) (p_arg p_int p_nil)))) (p_tN z 2)) (p_sCons (p_sSet (p_var 2) (p_tT z (p_gN z 3 ⟨rfl, by first | exact Or.inl rfl | exact Or.inr rfl, by first | exact Or.inl rfl | exact Or.inr rfl⟩ (p_gN z 4 ⟨rfl, by first | exact Or.inl rfl | exact Or.inr rfl, by first | exact Or.inl rfl | exact Or.inr rfl⟩ (p_gN z 5 ⟨rfl, by first | exact Or.inl rfl | exact Or.inr rfl, by first | exact Or.inl rfl | exact Or.inr rfl⟩ (p_gN z 6 ⟨rfl, by first | exact Or.inl rfl | exact Or.inr rfl, by first | exact Or.inl rfl | exact Or.inr rfl⟩ p_gNil)))))) (p_sCons (p_sSet (p_tup (p_arg (p_tup (p_arg p_int (p_arg p_int p_nil))) (p_arg p_bl p_nil))) (p_tN z 7)) (p_sCons (p_sSet (p_tup (p_arg (p_tup (p_arg (p_tup (p_arg p_non (p_arg p_int p_nil))) (p_arg p_bl p_nil))) (p_arg (p_tup (p_arg p_non (p_arg p_int p_nil))) (p_arg p_non p_nil)))) (p_tN z 8)) (p_sCons (p_sSet (p_callP z c__law_pieces (p_arg (p_var 2) (p_arg p_str (p_arg p_str (p_arg p_str p_nil))))) (p_tN z 9)) (p_sCons (p_sIf (q_cmp z (p_var 9) (p_lst true (p_arg (p_lst true (p_arg (p_tup (p_arg p_str (p_arg p_bl p_nil))) p_nil)) (p_arg (p_lst true (p_arg (p_tup (p_arg p_int (p_arg (p_tup (p_arg p_str (p_arg p_str p_nil))) p_nil))) p_nil)) (p_arg (p_var 7) (p_arg (p_var 8) p_nil)))))) (p_sCons (p_sRet p_bl) p_sNil) p_sNil) (p_sCons (p_sSet (p_callP z c__law_pieces (p_arg (p_var 2) (p_arg p_str (p_arg p_str (p_arg p_str p_nil))))) (p_tN z 9)) (p_sCons (p_sIf (q_cmp z (p_var 9) (p_lst true (p_arg (p_lst true (p_arg (p_tup (p_arg p_str (p_arg p_bl p_nil))) p_nil)) (p_arg (p_lst true p_nil) (p_arg (p_var 7) (p_arg (p_tup (p_arg p_non (p_arg (p_tup (p_arg p_non (p_arg p_int p_nil))) (p_arg p_non p_nil)))) p_nil)))))) (p_sCons (p_sRet p_bl) p_sNil) p_sNil) (p_sCons (p_sSet (p_callP z c__law_pieces (p_arg (p_var 2) (p_arg p_str (p_arg p_str (p_arg p_str p_nil))))) (p_tN z 9)) (p_sCons (p_sIf (q_cmp z (p_var 9) (p_lst true (p_arg (p_lst true (p_arg (p_tup (p_arg p_str (p_arg p_bl p_nil))) p_nil)) (p_arg (p_lst true (p_arg (p_tup (p_arg p_int (p_arg (p_tup (p_arg p_str (p_arg p_str p_nil))) p_nil))) p_nil)) (p_arg (p_var 7) (p_arg (p_tup (p_arg p_non (p_arg (p_tup (p_arg p_non (p_arg p_int p_nil))) (p_arg p_non p_nil)))) p_nil)))))) (p_sCons (p_sRet p_bl) p_sNil) p_sNil) (p_sCons (p_sSet (p_callP z c__law_pieces (p_arg (p_var 2) (p_arg p_str (p_arg p_str (p_arg p_str p_nil))))) (p_tN z 9)) (p_sCons (p_sIf (q_cmp z (p_var 9) (p_lst true (p_arg (p_lst true (p_arg (p_tup (p_arg p_str (p_arg p_bl p_nil))) p_nil)) (p_arg (p_lst true (p_arg (p_tup (p_arg p_int (p_arg (p_tup (p_arg p_str (p_arg (p_var 3) p_nil))) p_nil))) p_nil)) (p_arg (p_var 7) (p_arg (p_var 8) p_nil)))))) (p_sCons (p_sRet p_bl) p_sNil) p_sNil) (p_sCons (p_sSet (p_callN z c__law_book_of (p_arg (p_var 2) (p_arg p_str (p_arg p_str (p_arg p_str p_nil))))) (p_tN z 10)) (p_sCons (p_sSet (p_lst true (p_arg (p_tup (p_arg p_str (p_arg (p_var 3) (p_arg p_str p_nil)))) (p_arg (p_tup (p_arg p_str p_nil)) (p_arg (p_tup (p_arg p_str (p_arg p_str (p_arg (p_var 5) (p_arg p_int p_nil))))) (p_arg (p_tup (p_arg p_str (p_arg p_str (p_arg (p_var 5) (p_arg p_int p_nil))))) (p_arg (p_tup (p_arg p_str (p_arg p_str p_nil))) p_nil)))))) (p_tN z 11)) (p_sCons (p_sSet (p_callN z c_replay (p_arg (p_var 10) (p_arg (p_bin z true (p_var 11) (p_lst true (p_arg (p_tup (p_arg p_str (p_arg p_str p_nil))) (p_arg (p_tup (p_arg p_str (p_arg (p_var 3) (p_arg p_str p_nil)))) p_nil)))) p_nil))) (p_tN z 12)) (p_sCons (p_sSet (p_lst true (p_arg (p_tup (p_arg p_int (p_arg (p_tup (p_arg p_str (p_arg (p_var 3) p_nil))) p_nil))) (p_arg (p_tup (p_arg p_int (p_arg (p_tup (p_arg p_str (p_arg p_str p_nil))) p_nil))) (p_arg (p_tup (p_arg p_int (p_arg (p_tup (p_arg p_str (p_arg p_str p_nil))) p_nil))) p_nil)))) (p_tN z 13)) (p_sCons (p_sIf (PW.pt (q_or (q_cmp z (p_propN z (hP "found") (p_var 12)) (p_var 13)) (q_or1 (q_cmp z (p_propN z (hP "sent") (p_var 12)) (p_lst true (p_arg (p_tup (p_arg p_str (p_arg p_bl p_nil))) (p_arg (p_tup (p_arg p_str (p_arg p_bl p_nil))) p_nil))))))) (p_sCons (p_sRet p_bl) p_sNil) p_sNil) (p_sCons (p_sIf (PW.pt (q_or (q_cmp z (p_ix z (p_ix z (p_propN z (hP "notes") (p_var 12)) p_str) (p_var 3)) (p_tup (p_arg p_non (p_arg p_non (p_arg p_non p_nil))))) (q_or1 (q_cmp z (p_callN z c_counting (p_arg (p_var 12) (p_arg p_str p_nil))) (p_dict z true (p_kv (p_var 5) (p_tup p_nil) (p_kv (p_var 6) (p_tup p_nil) p_kNil))))))) (p_sCons (p_sRet p_bl) p_sNil) p_sNil) (p_sCons (p_sSet (p_and (p_cmp z (p_callN z c_asks (p_arg (p_var 12) (p_arg p_str p_nil))) (p_tup (p_arg (p_var 3) p_nil))) (p_one (p_cmp z (p_callN z c_asks (p_arg (p_var 12) (p_arg p_str p_nil))) (p_tup (p_arg (p_var 3) p_nil))))) (p_tN z 14)) (p_sCons (p_sRet (p_and (p_var 14) (p_one (p_cmp z (p_ix z (p_ix z (p_propN z (hP "notes") (p_var 12)) p_str) (p_var 3)) (p_tup (p_arg (p_tup (p_arg (p_tup (p_arg p_int (p_arg p_int p_nil))) (p_arg p_bl p_nil))) (p_arg (p_tup (p_arg p_int (p_arg p_int p_nil))) (p_arg (p_tup (p_arg p_int (p_arg p_int p_nil))) p_nil)))))))) p_sNil)))))))))))))))))))))
end Ms
set_option Elab.async false
set_option linter.all false
set_option maxRecDepth 100000
set_option maxHeartbeats 0
namespace Ms
open PySem PySem.Spec PyProof.Rows L2 Mp Mg
def wnA : W := .tup [.str "a", .str "b", .str "x", .str "y"]
def wnB : W := .tup [.str "main", .str "spare", .str "copy", .str "take"]
def wSg : W := .tup [.tup [.int 0, .int 1], .bl true]
def wNo : W := .tup [.non, .int 1]
def wTk : W := .tup [.tup [wNo, .bl false], wNo, .non]
def wT2 : W := .tup [.non, wNo, .non]
def wF (b : Bool) (fs : List W) (t : W) : W := .lst [.lst [.tup [.str "main", .bl b]], .lst fs, wSg, t]
def wPc : List W := [.tup [.int 6, .tup [.str "pieced", .str "main"]]]
abbrev pcs (n : W) (b c d : Str) (M : Store) : Out W := callC (fun _ => u__law_pieces) true 7 [n, .str b, .str c, .str d] M
theorem pa1 (M : Store) : pcs wnA "part" "carry" "carry" M = .ok (wF true wPc wTk) M := by kernel_rfl
theorem pa2 (M : Store) : pcs wnA "part" "carry" "drop" M = .ok (wF false [] wT2) M := by kernel_rfl
theorem pa3 (M : Store) : pcs wnA "name" "carry" "drop" M = .ok (wF true wPc wT2) M := by kernel_rfl
theorem pa4 (M : Store) : pcs wnA "whole" "carry" "carry" M = .ok (wF false [.tup [.int 5, .tup [.str "lost", .str "a"]]] wTk) M := by kernel_rfl
theorem pb1 (M : Store) : pcs wnB "part" "carry" "carry" M = .ok (wF true wPc wTk) M := by kernel_rfl
theorem pb2 (M : Store) : pcs wnB "part" "carry" "drop" M = .ok (wF false [] wT2) M := by kernel_rfl
theorem pb3 (M : Store) : pcs wnB "name" "carry" "drop" M = .ok (wF true wPc wT2) M := by kernel_rfl
theorem pb4 (M : Store) : pcs wnB "whole" "carry" "carry" M = .ok (wF false [.tup [.int 5, .tup [.str "lost", .str "main"]]] wTk) M := by kernel_rfl
end Ms
set_option Elab.async false
set_option linter.all false
set_option maxRecDepth 100000
set_option maxHeartbeats 0
namespace Ms
open PySem PySem.Spec PyProof.Rows L2 Mp Mg
def sgN (n x y z u p : W) : Sg := [some (.ref 0), some (.ref 2), some n, some x, some y, some z, some u, some wSg, some wTk, some p, none, none, none, none, none]
def isTr (o : SOut) : Bool := match o with
  | .ret (.bl true) _ => true
  | _ => false
theorem tailA (o : W) (cs : List W) (a c : Int) : isTr (fb_law_tail (sgN wnA (.str "a") (.str "b") (.str "x") (.str "y") (wF false [.tup [.int 5, .tup [.str "lost", .str "a"]]] wTk)) [.frz o, .lst cs, .lst [.int a, .ref 1, .int c, .int 14]]) = true := by kernel_rfl
theorem tailB (o : W) (cs : List W) (a c : Int) : isTr (fb_law_tail (sgN wnB (.str "main") (.str "spare") (.str "copy") (.str "take") (wF false [.tup [.int 5, .tup [.str "lost", .str "main"]]] wTk)) [.frz o, .lst cs, .lst [.int a, .ref 1, .int c, .int 14]]) = true := by kernel_rfl
theorem headA {c1 c2 c3 c4 : List W → Store → Out W} {T : FS} {M : Store} (h1 : c1 [wnA, .str "part", .str "carry", .str "carry"] M = .ok (wF true wPc wTk) M) (h2 : c2 [wnA, .str "part", .str "carry", .str "drop"] M = .ok (wF false [] wT2) M) (h3 : c3 [wnA, .str "name", .str "carry", .str "drop"] M = .ok (wF true wPc wT2) M)
    (h4 : c4 [wnA, .str "whole", .str "carry", .str "carry"] M = .ok (wF false [.tup [.int 5, .tup [.str "lost", .str "a"]]] wTk) M) : restF c1 c2 c3 c4 T [some (.ref 0), some (.ref 2), some wnA, none, none, none, none, none, none, none, none, none, none, none, none] M = T (sgN wnA (.str "a") (.str "b") (.str "x") (.str "y") (wF false [.tup [.int 5, .tup [.str "lost", .str "a"]]] wTk)) M := by
  have k1 := congrArg (fun q : Out W => restF (fun _ _ => q) c2 c3 c4 T [some (.ref 0), some (.ref 2), some wnA, none, none, none, none, none, none, none, none, none, none, none, none] M) h1
  have k2 := congrArg (fun q : Out W => restF (fun _ _ => .ok (wF true wPc wTk) M) (fun _ _ => q) c3 c4 T [some (.ref 0), some (.ref 2), some wnA, none, none, none, none, none, none, none, none, none, none, none, none] M) h2
  have k3 := congrArg (fun q : Out W => restF (fun _ _ => .ok (wF true wPc wTk) M) (fun _ _ => .ok (wF false [] wT2) M) (fun _ _ => q) c4 T [some (.ref 0), some (.ref 2), some wnA, none, none, none, none, none, none, none, none, none, none, none, none] M) h3
  have k4 := congrArg (fun q : Out W => restF (fun _ _ => .ok (wF true wPc wTk) M) (fun _ _ => .ok (wF false [] wT2) M) (fun _ _ => .ok (wF true wPc wT2) M) (fun _ _ => q) T [some (.ref 0), some (.ref 2), some wnA, none, none, none, none, none, none, none, none, none, none, none, none] M) h4
  have e1 : restF c1 c2 c3 c4 T [some (.ref 0), some (.ref 2), some wnA, none, none, none, none, none, none, none, none, none, none, none, none] M = restF (fun _ _ => c1 [wnA, .str "part", .str "carry", .str "carry"] M) c2 c3 c4 T [some (.ref 0), some (.ref 2), some wnA, none, none, none, none, none, none, none, none, none, none, none, none] M := by kernel_rfl
  have e2 : restF (fun _ _ => .ok (wF true wPc wTk) M) c2 c3 c4 T [some (.ref 0), some (.ref 2), some wnA, none, none, none, none, none, none, none, none, none, none, none, none] M = restF (fun _ _ => .ok (wF true wPc wTk) M) (fun _ _ => c2 [wnA, .str "part", .str "carry", .str "drop"] M) c3 c4 T [some (.ref 0), some (.ref 2), some wnA, none, none, none, none, none, none, none, none, none, none, none, none] M := by kernel_rfl
  have e3 : restF (fun _ _ => .ok (wF true wPc wTk) M) (fun _ _ => .ok (wF false [] wT2) M) c3 c4 T [some (.ref 0), some (.ref 2), some wnA, none, none, none, none, none, none, none, none, none, none, none, none] M = restF (fun _ _ => .ok (wF true wPc wTk) M) (fun _ _ => .ok (wF false [] wT2) M) (fun _ _ => c3 [wnA, .str "name", .str "carry", .str "drop"] M) c4 T [some (.ref 0), some (.ref 2), some wnA, none, none, none, none, none, none, none, none, none, none, none, none] M := by kernel_rfl
  have e4 : restF (fun _ _ => .ok (wF true wPc wTk) M) (fun _ _ => .ok (wF false [] wT2) M) (fun _ _ => .ok (wF true wPc wT2) M) c4 T [some (.ref 0), some (.ref 2), some wnA, none, none, none, none, none, none, none, none, none, none, none, none] M = restF (fun _ _ => .ok (wF true wPc wTk) M) (fun _ _ => .ok (wF false [] wT2) M) (fun _ _ => .ok (wF true wPc wT2) M) (fun _ _ => c4 [wnA, .str "whole", .str "carry", .str "carry"] M) T [some (.ref 0), some (.ref 2), some wnA, none, none, none, none, none, none, none, none, none, none, none, none] M := by kernel_rfl
  have e5 : restF (fun _ _ => .ok (wF true wPc wTk) M) (fun _ _ => .ok (wF false [] wT2) M) (fun _ _ => .ok (wF true wPc wT2) M) (fun _ _ => .ok (wF false [.tup [.int 5, .tup [.str "lost", .str "a"]]] wTk) M) T [some (.ref 0), some (.ref 2), some wnA, none, none, none, none, none, none, none, none, none, none, none, none] M = T (sgN wnA (.str "a") (.str "b") (.str "x") (.str "y") (wF false [.tup [.int 5, .tup [.str "lost", .str "a"]]] wTk)) M := by kernel_rfl
  exact (e1.trans k1).trans ((e2.trans k2).trans ((e3.trans k3).trans ((e4.trans k4).trans e5)))
theorem headB {c1 c2 c3 c4 : List W → Store → Out W} {T : FS} {M : Store} (h1 : c1 [wnB, .str "part", .str "carry", .str "carry"] M = .ok (wF true wPc wTk) M) (h2 : c2 [wnB, .str "part", .str "carry", .str "drop"] M = .ok (wF false [] wT2) M) (h3 : c3 [wnB, .str "name", .str "carry", .str "drop"] M = .ok (wF true wPc wT2) M)
    (h4 : c4 [wnB, .str "whole", .str "carry", .str "carry"] M = .ok (wF false [.tup [.int 5, .tup [.str "lost", .str "main"]]] wTk) M) : restF c1 c2 c3 c4 T [some (.ref 0), some (.ref 2), some wnB, none, none, none, none, none, none, none, none, none, none, none, none] M = T (sgN wnB (.str "main") (.str "spare") (.str "copy") (.str "take") (wF false [.tup [.int 5, .tup [.str "lost", .str "main"]]] wTk)) M := by
  have k1 := congrArg (fun q : Out W => restF (fun _ _ => q) c2 c3 c4 T [some (.ref 0), some (.ref 2), some wnB, none, none, none, none, none, none, none, none, none, none, none, none] M) h1
  have k2 := congrArg (fun q : Out W => restF (fun _ _ => .ok (wF true wPc wTk) M) (fun _ _ => q) c3 c4 T [some (.ref 0), some (.ref 2), some wnB, none, none, none, none, none, none, none, none, none, none, none, none] M) h2
  have k3 := congrArg (fun q : Out W => restF (fun _ _ => .ok (wF true wPc wTk) M) (fun _ _ => .ok (wF false [] wT2) M) (fun _ _ => q) c4 T [some (.ref 0), some (.ref 2), some wnB, none, none, none, none, none, none, none, none, none, none, none, none] M) h3
  have k4 := congrArg (fun q : Out W => restF (fun _ _ => .ok (wF true wPc wTk) M) (fun _ _ => .ok (wF false [] wT2) M) (fun _ _ => .ok (wF true wPc wT2) M) (fun _ _ => q) T [some (.ref 0), some (.ref 2), some wnB, none, none, none, none, none, none, none, none, none, none, none, none] M) h4
  have e1 : restF c1 c2 c3 c4 T [some (.ref 0), some (.ref 2), some wnB, none, none, none, none, none, none, none, none, none, none, none, none] M = restF (fun _ _ => c1 [wnB, .str "part", .str "carry", .str "carry"] M) c2 c3 c4 T [some (.ref 0), some (.ref 2), some wnB, none, none, none, none, none, none, none, none, none, none, none, none] M := by kernel_rfl
  have e2 : restF (fun _ _ => .ok (wF true wPc wTk) M) c2 c3 c4 T [some (.ref 0), some (.ref 2), some wnB, none, none, none, none, none, none, none, none, none, none, none, none] M = restF (fun _ _ => .ok (wF true wPc wTk) M) (fun _ _ => c2 [wnB, .str "part", .str "carry", .str "drop"] M) c3 c4 T [some (.ref 0), some (.ref 2), some wnB, none, none, none, none, none, none, none, none, none, none, none, none] M := by kernel_rfl
  have e3 : restF (fun _ _ => .ok (wF true wPc wTk) M) (fun _ _ => .ok (wF false [] wT2) M) c3 c4 T [some (.ref 0), some (.ref 2), some wnB, none, none, none, none, none, none, none, none, none, none, none, none] M = restF (fun _ _ => .ok (wF true wPc wTk) M) (fun _ _ => .ok (wF false [] wT2) M) (fun _ _ => c3 [wnB, .str "name", .str "carry", .str "drop"] M) c4 T [some (.ref 0), some (.ref 2), some wnB, none, none, none, none, none, none, none, none, none, none, none, none] M := by kernel_rfl
  have e4 : restF (fun _ _ => .ok (wF true wPc wTk) M) (fun _ _ => .ok (wF false [] wT2) M) (fun _ _ => .ok (wF true wPc wT2) M) c4 T [some (.ref 0), some (.ref 2), some wnB, none, none, none, none, none, none, none, none, none, none, none, none] M = restF (fun _ _ => .ok (wF true wPc wTk) M) (fun _ _ => .ok (wF false [] wT2) M) (fun _ _ => .ok (wF true wPc wT2) M) (fun _ _ => c4 [wnB, .str "whole", .str "carry", .str "carry"] M) T [some (.ref 0), some (.ref 2), some wnB, none, none, none, none, none, none, none, none, none, none, none, none] M := by kernel_rfl
  have e5 : restF (fun _ _ => .ok (wF true wPc wTk) M) (fun _ _ => .ok (wF false [] wT2) M) (fun _ _ => .ok (wF true wPc wT2) M) (fun _ _ => .ok (wF false [.tup [.int 5, .tup [.str "lost", .str "main"]]] wTk) M) T [some (.ref 0), some (.ref 2), some wnB, none, none, none, none, none, none, none, none, none, none, none, none] M = T (sgN wnB (.str "main") (.str "spare") (.str "copy") (.str "take") (wF false [.tup [.int 5, .tup [.str "lost", .str "main"]]] wTk)) M := by kernel_rfl
  exact (e1.trans k1).trans ((e2.trans k2).trans ((e3.trans k3).trans ((e4.trans k4).trans e5)))
def cP : List W → Store → Out W := fun ws M1 => callC (fun _ => u__law_pieces) true 7 ws M1
theorem rest_eq : fb_law_rest = restF cP cP cP cP fb_law_tail := rfl
theorem tr_of {o : SOut} (h : isTr o = true) : ∃ M, o = .ret (.bl true) M := by
  unfold isTr at h
  split at h
  · exact ⟨_, rfl⟩
  · cases h
theorem rest_0r (o : W) (cs : List W) (a c : Int) : ∃ M, fb_law_rest [some (.ref 0), some (.ref 2), some wnA, none, none, none, none, none, none, none, none, none, none, none, none] [.frz o, .lst cs, .lst [.int a, .ref 1, .int c, .int 14]] = .ret (.bl true) M := by
  obtain ⟨M, e⟩ := tr_of (tailA o cs a c)
  rw [rest_eq]
  exact ⟨M, (headA (pa1 _) (pa2 _) (pa3 _) (pa4 _)).trans e⟩
theorem rest_1r (o : W) (cs : List W) (a c : Int) : ∃ M, fb_law_rest [some (.ref 0), some (.ref 2), some wnB, none, none, none, none, none, none, none, none, none, none, none, none] [.frz o, .lst cs, .lst [.int a, .ref 1, .int c, .int 14]] = .ret (.bl true) M := by
  obtain ⟨M, e⟩ := tr_of (tailB o cs a c)
  rw [rest_eq]
  exact ⟨M, (headB (pb1 _) (pb2 _) (pb3 _) (pb4 _)).trans e⟩
end Ms
set_option Elab.async false
set_option linter.all false
set_option maxRecDepth 100000
set_option maxHeartbeats 2000000
namespace Ms
open PySem PySem.Spec PyProof.Rows L2 Mp Mg
abbrev iW (ns : List Int) : List W := ns.map .int
theorem mul_c (i : Int) (j : Int) (h : Nat.blt j.natAbs (2 ^ 64) = true) (M : Store) : multW true (.int i) (.int j) M = .ok (.int (i * j)) M := by
  unfold multW
  have : mulOk i j = true := by unfold mulOk; rw [h, Bool.or_true]
  dsimp only
  rw [this]
theorem frzs_ints : ∀ (ns : List Int) (n : Nat) (M : Store), ns.length < n → frzs n (iW ns) M = some (iW ns, M)
  | [], n, M, h => by
    obtain ⟨m, rfl⟩ : ∃ m, n = m + 1 := ⟨n - 1, by omega⟩
    unfold frzs
    rfl
  | i :: ns, n, M, h => by
    obtain ⟨m, rfl⟩ : ∃ m, n = m + 1 + 1 := ⟨n - 2, by simp at h; omega⟩
    have ih := frzs_ints ns (m + 1) M (by simp at h; omega)
    have e : frzW (m + 1) (.int i) M = some (.int i, M) := by unfold frzW; rfl
    show frzs (m + 1 + 1) (.int i :: iW ns) M = _
    unfold frzs
    rw [e]
    dsimp only
    rw [ih]
    rfl
/-- the script, as it stands in the store -/
def ScrO (ns : List Int) (o : MObj) : Prop := o = .lst (iW ns) ∨ o = .frz (.lst (iW ns))
theorem frz_scr {ns : List Int} {o : MObj} (h : ScrO ns o) (hl : ns.length ≤ 63) : freezeW (.ref 0) [o] = .ok (.lst (iW ns)) [.frz (.lst (iW ns))] := by
  have e : ∀ n, ns.length < n → frzs n (iW ns) [.frz (.lst (iW ns))] = some (iW ns, [.frz (.lst (iW ns))]) := fun n hn => frzs_ints ns n _ hn
  have main : ∃ k, frzW (k + 70) (.ref 0) [o] = frzW 100000 (.ref 0) [o] := ⟨99930, rfl⟩
  have go : ∀ k, frzW (k + 70) (.ref 0) [o] = some (.lst (iW ns), [.frz (.lst (iW ns))]) := by
    intro k
    rcases h with rfl | rfl
    · show frzW (k + 69 + 1) (.ref 0) [.lst (iW ns)] = _
      unfold frzW
      show (match frzs (k + 69) (iW ns) [.frz (.lst (iW ns))] with
        | some (us, M1) => some (W.lst us, M1.set 0 (.frz (.lst us)))
        | none => none) = _
      rw [e _ (by omega)]
      rfl
    · show frzW (k + 68 + 1 + 1) (.ref 0) [.frz (.lst (iW ns))] = _
      unfold frzW
      show frzW (k + 68 + 1) (.lst (iW ns)) [.frz (.lst (iW ns))] = _
      unfold frzW
      rw [e _ (by omega)]
  obtain ⟨k, hk⟩ := main
  unfold freezeW
  show (match frzW 100000 (.ref 0) [o] with
    | some (u, M1) => Out.ok u M1
    | none => .fail) = _
  rw [← hk, go k]
/-! ### _law_mix -/
abbrev mE : FE := fBin (binop true .Mod) (fApp (fOne (fBin (binop true .Add) (fBin (binop true .Add) (fBin (binop true .Mult) (fVar 2) (fCon (.int 48271))) (fBin (binop true .Mod) (fApp (fOne (fVar 3) fNil) (g1 intW)) (fCon (.int 2147483629)))) (fCon (.int 1))) fNil) (g1 intW)) (fCon (.int 2147483647))
theorem mE_ok (w0 w1 : W) (st x : Int) (M : Store) : ∃ z, mE [some w0, some w1, some (.int st), some (.int x)] M = .ok (.int z) M := by
  exact ⟨(st * 48271 + x.fmod 2147483629 + 1).fmod 2147483647, (congrArg (fun o : Out W => ((((o.bind fun a M1 => addW true a (.int (x.fmod 2147483629)) M1).bind fun a M1 => addW true a (.int 1) M1).bind fun a M1 => Out.ok [a] M1).bind (g1 intW)).bind fun a M1 => modW a (.int 2147483647) M1) (mul_c st 48271 (by decide) M) : _)⟩
theorem mix_loop (w0 w1 : W) (M : Store) : ∀ (ns : List Int) (st : Int) (c : Option W), ∃ st' c', forL (fun x σ1 M2 => match asgT (.n 3) x σ1 M2 with | some σ2 => (sSeq (sSet (.n 2) mE) sNil) σ2 M2 | none => .fail) (iW ns) [some w0, some w1, some (.int st), c] M = .next [some w0, some w1, some (.int st'), c'] M
  | [], st, c => ⟨st, c, rfl⟩
  | x :: ns, st, c => by
    obtain ⟨z, hz⟩ := mE_ok w0 w1 st x M
    obtain ⟨st', c', ih⟩ := mix_loop w0 w1 M ns z (some (.int x))
    refine ⟨st', c', ?_⟩
    show SOut.then_ (SOut.then_ ((mE [some w0, some w1, some (.int st), some (.int x)] M).st _ _) _) _ = _
    rw [hz]
    exact ih
theorem lenOk_ {n : Nat} (h : n ≤ 16777216) : lenOk n = true := Nat.ble_eq_true_of_le h
theorem mix_ok {ns : List Int} {o : MObj} (h : ScrO ns o) (hl : ns.length ≤ 63) : ∃ st, u__law_mix [.ref 0, .int 20] [o] = .ok (.ref 2) [.frz (.lst (iW ns)), .lst (iW ns), .lst [.int st, .ref 1, .int 0, .int 14]] := by
  obtain ⟨st, c, e⟩ := mix_loop (.ref 0) (.int 20) [.frz (.lst (iW ns))] ns 20 none
  refine ⟨st, ?_⟩
  have e2 : fb__law_mix [some (.ref 0), some (.int 20), none, none] [o] = .ret (.ref 2) [.frz (.lst (iW ns)), .lst (iW ns), .lst [.int st, .ref 1, .int 0, .int 14]] := by
    have k1 := congrArg (fun q : Out W => SOut.then_ (Out.st (q.bind plainIt) [some (.ref 0), some (.int 20), some (.int 20), none] fun xs M1 => forL (fun x σ1 M2 => match asgT (.n 3) x σ1 M2 with | some σ2 => (sSeq (sSet (.n 2) mE) sNil) σ2 M2 | none => .fail) xs [some (.ref 0), some (.int 20), some (.int 20), none] M1)
      fun σ2 M2 => sSeq (sRet (fLst false (fOne (fVar 2) (fOne (fApp (fOne (fVar 0) fNil) (g1 (listW false))) (fOne (fCon (.int 0)) (fOne (fCon (.int 14)) fNil)))))) sNil σ2 M2) (frz_scr h hl)
    have k2 := congrArg (fun q : SOut => SOut.then_ q fun σ2 M2 => sSeq (sRet (fLst false (fOne (fVar 2) (fOne (fApp (fOne (fVar 0) fNil) (g1 (listW false))) (fOne (fCon (.int 0)) (fOne (fCon (.int 14)) fNil)))))) sNil σ2 M2) e
    have m1 : mkL false (iW ns) [.frz (.lst (iW ns))] = .ok (.ref 1) [.frz (.lst (iW ns)), .lst (iW ns)] := by
      unfold mkL
      rw [lenOk_ (by rw [List.length_map]; omega)]
      rfl
    have k3 := congrArg (fun q : Out W => SOut.then_ (Out.st (Out.bind (Out.bind (Out.bind q fun w M1 => Out.ok [w, .int 0, .int 14] M1) fun ws M2 => Out.ok (.int st :: ws) M2) (mkL false)) [some (.ref 0), some (.int 20), some (.int st), c] fun w M1 => SOut.ret w M1) fun σ M => SOut.next σ M) m1
    exact ((show fb__law_mix [some (.ref 0), some (.int 20), none, none] [o] = _ from rfl).trans k1).trans (k2.trans (k3.trans rfl))
  unfold u__law_mix uDef
  show calmO (stepO fb__law_mix 4 [.ref 0, .int 20] [o]) = _
  unfold stepO
  show calmO (match fb__law_mix [some (.ref 0), some (.int 20), none, none] [o] with
    | .next _ M1 => Out.ok .non M1
    | .ret w M1 => .ok w M1
    | .exc c es _ M1 => .exc c es M1
    | .fail => .fail) = _
  rw [e2]
  rfl
/-! ### _law_next -/
abbrev stM (ns : List Int) (st : Int) : Store := [.frz (.lst (iW ns)), .lst (iW ns), .lst [.int st, .ref 1, .int 0, .int 14]]
abbrev nA : FE := fBin (binop true .Add) (fBin ixW (fVar 0) (fCon (.int 1))) (fLst true (fOne (fCon (.int 0)) fNil))
abbrev nI : FE := fBin (binop true .Mod) (fApp (fOne (fBin ixW (fVar 0) (fCon (.int 2))) fNil) (g1 intW)) (fApp (fOne (fCon (.int 1)) (fOne (fApp (fOne (fBin ixW (fVar 0) (fCon (.int 1))) fNil) gLen) fNil)) (g2 maxW))
theorem nA_ok {ns : List Int} {st : Int} {c : Option W} (hl : ns.length ≤ 63) : nA [some (.ref 2), some (.int 2), c] (stM ns st) = .ok (.lst (iW ns ++ [.int 0])) (stM ns st) := by
  show mkL true (iW ns ++ [.int 0]) (stM ns st) = _
  unfold mkL
  rw [lenOk_ (by rw [List.length_append, List.length_map]; simp only [List.length_cons, List.length_nil]; omega)]
theorem mod_0 {m : Int} (h : m ≠ 0) (M : Store) : modW (.int 0) (.int m) M = .ok (.int 0) M := by
  unfold modW
  dsimp only
  rw [decide_eq_true h, Int.zero_fmod]
theorem nI_ok {ns : List Int} {st : Int} {c : Option W} : nI [some (.ref 2), some (.int 2), c] (stM ns st) = .ok (.int 0) (stM ns st) := by
  show modW (.int 0) (.int (match decide ((1 : Int) < ((iW ns).length : Nat)) with | true => ((iW ns).length : Nat) | false => 1)) (stM ns st) = _
  refine mod_0 ?_ _
  cases h : decide ((1 : Int) < ((iW ns).length : Nat)) with
  | true => have := of_decide_eq_true h; dsimp only; omega
  | false => exact (by decide : (1 : Int) ≠ 0)
theorem ixOf0 (n : Nat) : ixOf 0 (n + 1) = some 0 := by
  unfold ixOf
  rw [decide_eq_true (Int.le_refl 0)]
  dsimp only
  rw [decide_eq_true (by omega : (0 : Int) < ((n + 1 : Nat) : Int))]
  rfl
theorem ix0 (w : W) (r : List W) (M : Store) : ixW (.lst (w :: r)) (.int 0) M = .ok w M := by
  have h := ixOf0 r.length
  unfold ixW
  show (match ixOf 0 (r.length + 1) with
    | some n => match (w :: r)[n]? with
      | some w => Out.ok w M
      | none => .fail
    | none => .fail) = _
  rw [h]
  rfl
def hd0 : List Int → Int
  | [] => 0
  | x :: _ => x
theorem cell_ok {ns : List Int} {st : Int} {c : Option W} (hl : ns.length ≤ 63) : fBin ixW nA nI [some (.ref 2), some (.int 2), c] (stM ns st) = .ok (.int (hd0 ns)) (stM ns st) := by
  have k1 := congrArg (fun q : Out W => q.bind fun x M1 => (nI [some (.ref 2), some (.int 2), c] M1).bind fun y M2 => ixW x y M2) (nA_ok (st := st) (c := c) hl)
  have k2 := congrArg (fun q : Out W => q.bind fun y M2 => ixW (.lst (iW ns ++ [.int 0])) y M2) (nI_ok (ns := ns) (st := st) (c := c))
  refine k1.trans (k2.trans ?_)
  cases ns with
  | nil =>
    show ixW (.lst (.int 0 :: [])) (.int 0) (stM [] st) = _
    exact ix0 _ _ _
  | cons x r =>
    show ixW (.lst (.int x :: (iW r ++ [.int 0]))) (.int 0) (stM (x :: r) st) = _
    exact ix0 _ _ _
theorem set0 (x q : Int) (r : List Int) (st : Int) : setItemW (.ref 1) (.int 0) (.int q) (stM (x :: r) st) = some [.frz (.lst (iW (x :: r))), .lst (.int q :: iW r), .lst [.int st, .ref 1, .int 0, .int 14]] := by
  have h := ixOf0 (iW r).length
  show (match ixOf 0 ((iW r).length + 1) with
    | some n => some ((stM (x :: r) st).set 1 (.lst ((iW (x :: r)).set n (.int q))))
    | none => none) = _
  rw [h]
  rfl
theorem fmod2 (y : Int) : y.fmod 2 = 0 ∨ y.fmod 2 = 1 := by
  have h := Int.fmod_eq_emod_of_nonneg y (by decide : (0 : Int) ≤ 2)
  rw [h]
  omega
/-- a source of draws, as it stands behind the first draw -/
def After (M : Store) : Prop := ∃ (o : W) (cs : List W) (a c : Int), M = [.frz o, .lst cs, .lst [.int a, .ref 1, .int c, .int 14]]
abbrev nT : FE := (fBin (cmpop G0 C0 .GtE) (fVar 2) (fBin (binop true .Pow) (fCon (.int 10)) (fCon (.int 18))))
abbrev nB : FS := (sSeq (sSetI (fBin ixW (fVar 0) (fCon (.int 1))) (fBin (binop true .Mod) (fApp (fOne (fBin ixW (fVar 0) (fCon (.int 2))) fNil) (g1 intW)) (fApp (fOne (fBin ixW (fVar 0) (fCon (.int 1))) fNil) gLen)) (fBin (binop true .FloorDiv) (fVar 2) (fVar 1))) (sSeq (sRet (fBin (binop true .Mod) (fApp (fOne (fVar 2) fNil) (g1 intW)) (fVar 1))) sNil))
abbrev nR : FS := (sSeq (sSetI (fVar 0) (fCon (.int 0)) (fBin (binop true .Mod) (fApp (fOne (fBin (binop true .Add) (fBin (binop true .Add) (fBin (binop true .Mult) (fBin ixW (fVar 0) (fCon (.int 0))) (fCon (.int 48271))) (fBin (binop true .Mult) (fVar 2) (fCon (.int 69621)))) (fCon (.int 11))) fNil) (g1 intW)) (fCon (.int 2147483647)))) (sSeq (sSetI (fVar 0) (fCon (.int 2)) (fBin (binop true .Add) (fBin ixW (fVar 0) (fCon (.int 2))) (fCon (.int 1)))) (sSeq (sRet (fBin (binop true .Mod) (fApp (fOne (fBin (binop true .FloorDiv) (fBin ixW (fVar 0) (fCon (.int 0))) (fCon (.int 7))) fNil) (g1 intW)) (fVar 1))) sNil)))
abbrev nBR : FS := (sSeq (sRet (fBin (binop true .Mod) (fApp (fOne (fVar 2) fNil) (g1 intW)) (fVar 1))) sNil)
abbrev nRR : FS := (sSeq (sSetI (fVar 0) (fCon (.int 2)) (fBin (binop true .Add) (fBin ixW (fVar 0) (fCon (.int 2))) (fCon (.int 1)))) (sSeq (sRet (fBin (binop true .Mod) (fApp (fOne (fBin (binop true .FloorDiv) (fBin ixW (fVar 0) (fCon (.int 0))) (fCon (.int 7))) fNil) (g1 intW)) (fVar 1))) sNil))
abbrev nE1 : FE := (fBin (binop true .Mod) (fApp (fOne (fBin (binop true .Add) (fBin (binop true .Add) (fBin (binop true .Mult) (fBin ixW (fVar 0) (fCon (.int 0))) (fCon (.int 48271))) (fBin (binop true .Mult) (fVar 2) (fCon (.int 69621)))) (fCon (.int 11))) fNil) (g1 intW)) (fCon (.int 2147483647)))
theorem tail_big {y st : Int} {r : List Int} : nB [some (.ref 2), some (.int 2), some (.int y)] (stM (y :: r) st) = .ret (.int (y.fmod 2)) [.frz (.lst (iW (y :: r))), .lst (.int (y.fdiv 2) :: iW r), .lst [.int st, .ref 1, .int 0, .int 14]] := by
  have k1 := congrArg (fun q : Out W => SOut.then_ (q.st [some (.ref 2), some (.int 2), some (.int y)] fun yv M3 => stO (setItemW (.ref 1) yv (.int (y.fdiv 2)) M3) [some (.ref 2), some (.int 2), some (.int y)]) fun σ M => nBR σ M) (mod_0 (m := ((iW (y :: r)).length : Nat)) (by simp only [List.length_map, List.length_cons]; omega) (stM (y :: r) st))
  have k2 := congrArg (fun q : Option Store => SOut.then_ (stO q [some (.ref 2), some (.int 2), some (.int y)]) fun σ M => nBR σ M) (set0 y (y.fdiv 2) r st)
  exact k1.trans (k2.trans rfl)
theorem e1_ok {x st : Int} {ns : List Int} : nE1 [some (.ref 2), some (.int 2), some (.int x)] (stM ns st) = .ok (.int ((st * 48271 + x * 69621 + 11).fmod 2147483647)) (stM ns st) := by
  have k1 := congrArg (fun q : Out W => ((((q.bind fun a M1 => (multW true (.int x) (.int 69621) M1).bind fun b M2 => addW true a b M2).bind fun a M1 => addW true a (.int 11) M1).bind fun a M1 => Out.ok [a] M1).bind (g1 intW)).bind fun a M1 => modW a (.int 2147483647) M1) (mul_c st 48271 (by decide) (stM ns st))
  have k2 := congrArg (fun q : Out W => ((((q.bind fun b M2 => addW true (.int (st * 48271)) b M2).bind fun a M1 => addW true a (.int 11) M1).bind fun a M1 => Out.ok [a] M1).bind (g1 intW)).bind fun a M1 => modW a (.int 2147483647) M1) (mul_c x 69621 (by decide) (stM ns st))
  exact k1.trans (k2.trans rfl)
theorem tail_small {x st : Int} {ns : List Int} : ∃ r M, (r = 0 ∨ r = 1) ∧ After M ∧ nR [some (.ref 2), some (.int 2), some (.int x)] (stM ns st) = .ret (.int r) M := by
  have k1 := congrArg (fun q : Out W => SOut.then_ (q.st [some (.ref 2), some (.int 2), some (.int x)] fun w M1 => stO (setItemW (.ref 2) (.int 0) w M1) [some (.ref 2), some (.int 2), some (.int x)]) fun σ M => nRR σ M) (e1_ok (x := x) (st := st) (ns := ns))
  exact ⟨(((st * 48271 + x * 69621 + 11).fmod 2147483647).fdiv 7).fmod 2, [.frz (.lst (iW ns)), .lst (iW ns), .lst [.int ((st * 48271 + x * 69621 + 11).fmod 2147483647), .ref 1, .int (0 + 1), .int 14]], fmod2 _, ⟨_, _, _, _, rfl⟩, k1.trans rfl⟩
theorem next_split (σ : Sg) (M : Store) : fb__law_next σ M = SOut.then_ ((fBin ixW nA nI σ M).st σ fun w M1 => match asgT (.n 2) w σ M1 with | some σ1 => .next σ1 M1 | none => .fail) fun σ1 M1 => SOut.then_ ((tstW (nT σ1 M1)).st σ1 fun k M2 => match k with | true => nB σ1 M2 | false => sNil σ1 M2) fun σ2 M2 => nR σ2 M2 := rfl
theorem test_ok {x st : Int} {ns : List Int} {b : Bool} (h : decide ((10 : Int) ^ 18 ≤ x) = b) : tstW (nT [some (.ref 2), some (.int 2), some (.int x)] (stM ns st)) = .ok b (stM ns st) := by
  show Out.ok (decide ((10 : Int) ^ 18 ≤ x)) (stM ns st) = _
  rw [h]
theorem next_ok {ns : List Int} {st : Int} (hl : ns.length ≤ 63) : ∃ r M, (r = 0 ∨ r = 1) ∧ After M ∧ u__law_next [.ref 2, .int 2] (stM ns st) = .ok (.int r) M := by
  have main : ∃ r M, (r = 0 ∨ r = 1) ∧ After M ∧ fb__law_next [some (.ref 2), some (.int 2), none] (stM ns st) = .ret (.int r) M := by
    have c1 := cell_ok (st := st) (c := none) hl
    have k1 := congrArg (fun q : Out W => SOut.then_ (q.st [some (.ref 2), some (.int 2), none] fun w M1 => match asgT (.n 2) w [some (.ref 2), some (.int 2), none] M1 with | some σ1 => .next σ1 M1 | none => .fail) fun σ1 M1 => SOut.then_ ((tstW (nT σ1 M1)).st σ1 fun k M2 => match k with | true => nB σ1 M2 | false => sNil σ1 M2) fun σ2 M2 => nR σ2 M2) c1
    cases hb : decide ((10 : Int) ^ 18 ≤ hd0 ns) with
    | true =>
      have k2 := congrArg (fun q : Out Bool => SOut.then_ (q.st [some (.ref 2), some (.int 2), some (.int (hd0 ns))] fun k M2 => match k with | true => nB [some (.ref 2), some (.int 2), some (.int (hd0 ns))] M2 | false => sNil [some (.ref 2), some (.int 2), some (.int (hd0 ns))] M2) fun σ2 M2 => nR σ2 M2) (test_ok (st := st) (ns := ns) hb)
      cases ns with
      | nil => exact absurd hb (by decide)
      | cons y r =>
        have k3 := congrArg (fun q : SOut => SOut.then_ q fun σ2 M2 => nR σ2 M2) (tail_big (y := y) (r := r) (st := st))
        exact ⟨y.fmod 2, _, fmod2 y, ⟨_, _, _, _, rfl⟩, (next_split _ _).trans (k1.trans (k2.trans k3))⟩
    | false =>
      have k2 := congrArg (fun q : Out Bool => SOut.then_ (q.st [some (.ref 2), some (.int 2), some (.int (hd0 ns))] fun k M2 => match k with | true => nB [some (.ref 2), some (.int 2), some (.int (hd0 ns))] M2 | false => sNil [some (.ref 2), some (.int 2), some (.int (hd0 ns))] M2) fun σ2 M2 => nR σ2 M2) (test_ok (st := st) (ns := ns) hb)
      obtain ⟨r, M, hr, hM, e⟩ := tail_small (x := hd0 ns) (st := st) (ns := ns)
      exact ⟨r, M, hr, hM, (next_split _ _).trans (k1.trans (k2.trans e))⟩
  obtain ⟨r, M, hr, hM, e⟩ := main
  refine ⟨r, M, hr, hM, ?_⟩
  unfold u__law_next uDef
  show calmO (stepO fb__law_next 3 [.ref 2, .int 2] (stM ns st)) = _
  unfold stepO
  show calmO (match fb__law_next [some (.ref 2), some (.int 2), none] (stM ns st) with
    | .next _ M1 => Out.ok .non M1
    | .ret w M1 => .ok w M1
    | .exc c es _ M1 => .exc c es M1
    | .fail => .fail) = _
  rw [e]
  rfl
end Ms
set_option Elab.async false
set_option linter.all false
set_option maxRecDepth 100000
set_option maxHeartbeats 4000000
namespace Ms
open PySem PySem.Spec PyProof.Rows L2 Mp Mg Mh
section
variable {F : Fx} {P : Program} {w : World} {K : PySem.W.Frag} {mg : Str → Option Value} {base : Heap} {h : Heap} {G : Gm} {C : Orc}
theorem gv_str {x z : Str} (e : ∃ t, mg x = some (.str z t)) : GVal F mg x (.str z) := by
  obtain ⟨t, e⟩ := e
  exact ⟨_, .str z, e, ⟨t, rfl⟩, fun _ _ => rfl⟩
theorem gv_int {x : Str} {i : Int} (e : ∃ t, mg x = some (.int i t)) : GVal F mg x (.int i) := by
  obtain ⟨t, e⟩ := e
  exact ⟨_, .int i, e, ⟨t, rfl⟩, fun _ _ => rfl⟩
theorem gv_tup {x : Str} {a : Addr} {ws : List W} {vs : List V} (e : mg x = some (.ref a)) (s : ∀ H, SqT F.K H a vs) (r : ∀ ρ H, Rps F ρ H ws vs) : GVal F mg x (.tup ws) := ⟨_, .ref a, e, rfl, fun ρ H => ⟨a, vs, rfl, s H, r ρ H⟩⟩
theorem rpE_of {P : Params} (hw : F.w.params = P) {ρ : List Addr} {H : Hp} : ∀ {l : List DictEntry} {ks : List Str} {vs : List Int}, l.map He.keyOf = He.keysIn P ks → l.map valI = vs.map some → RpE F ρ H (zipK (ks.map .str) (vs.map .int)) l
  | [], [], [], _, _ => rfl
  | [], _ :: _, _, h, _ => by cases h
  | _ :: _, [], _, h, _ => by cases h
  | [], [], _ :: _, _, h => by cases h
  | _ :: _, _ :: _, [], _, h => by cases h
  | e :: l, k :: ks, v :: vs, h, h2 => by
    have h : He.keyOf e :: l.map He.keyOf = some (k, PyData.keyHash P k) :: He.keysIn P ks := h
    injection h with a1 a2
    have h2 : valI e :: l.map valI = some v :: vs.map some := h2
    injection h2 with b1 b2
    have c1 : ∃ t, e.key = .str k t ∧ e.hash = PyData.keyHash P k := by
      unfold He.keyOf at a1
      split at a1
      · rename_i x t q
        have a3 := Option.some.inj a1
        obtain ⟨a4, a5⟩ := Prod.mk.inj a3
        exact ⟨t, by rw [q, a4], a5⟩
      · cases a1
    have c2 : ∃ t, e.val = .int v t := by
      unfold valI at b1
      split at b1
      · rename_i i t q
        cases b1
        exact ⟨t, q⟩
      · cases b1
    obtain ⟨t, c1, c3⟩ := c1
    obtain ⟨t2, c2⟩ := c2
    refine ⟨e, l, rfl, ?_, ⟨.str k, by rw [c1]; exact ⟨t, rfl⟩, rfl⟩, ⟨.int v, by rw [c2]; exact ⟨t2, rfl⟩, rfl⟩, rpE_of hw a2 b2⟩
    rw [c3, ← hw]
    rfl
theorem gv_dic {x : Str} {fa : List He.Fa} {fn : List He.DefD} {ts : List He.Tab} {ks : List Str} {vs : List Int} {es : List W} (e : mg x = some (.ref (He.ga F.K x))) (c : He.SaysT fa fn ts F.w F.K) (ht : ts[0]? = some ((fun K => He.ga K x), ks)) (hv : dvB F.K (He.ga F.K x) vs = true)
    (he : es = zipK (ks.map .str) (vs.map .int)) (nd : ks.Nodup) (hl : es.length ≤ 64) : GVal F mg x (.dic es) := by
  obtain ⟨a, n, D⟩ := c.tab 0 ht
  have q : ts.map (fun t => He.dicW F.K (t.1 F.K)) = ts.map fun t => some (He.keysIn F.w.params t.2) := congrArg (fun z : He.AlT => z.2) c
  have q2 : (ts.map fun t => He.dicW F.K (t.1 F.K))[0]? = (ts.map fun t => some (He.keysIn F.w.params t.2))[0]? := by rw [q]
  rw [List.getElem?_map, List.getElem?_map, ht] at q2
  have q3 : He.dicW F.K (He.ga F.K x) = some (He.keysIn F.w.params ks) := Option.some.inj q2
  have at_ : F.K.lookup (He.ga F.K x) = some ⟨.type "dict", none, .dict a n, #[]⟩ := D.at_
  have low : (He.ga F.K x == sysModules) = false := D.low
  have q4 : a.toList.map He.keyOf = He.keysIn F.w.params ks := by
    unfold He.dicW at q3
    rw [at_] at q3
    simp only [low] at q3
    simpa using q3
  have q5 : a.toList.map valI = vs.map some := by
    unfold dvB at hv
    rw [at_] at hv
    exact dB_ok hv
  refine ⟨_, .ref (He.ga F.K x), e, rfl, fun ρ H => ⟨_, a.toList, rfl, low, .inr ⟨n, at_⟩, Nat.le_trans hl (by decide), ?_, ?_⟩⟩
  · rw [he]; exact zip_dist nd
  · rw [he]; exact rpE_of rfl q4 q5
theorem fnok_at {name qual : Str} {params : Arguments} {body : List Stmt} {sc : Scope} {f : Addr} {dV kV doc pm cdv ct oc : Value} {an od : Option Addr} {osl : Array (Option Value)} {N ps : List Str} {n : Nat} {fb : FS} (lk : K.lookup f = some ⟨oc, od, .func (PySem.W.fnOf name qual params body sc dV kV doc pm an cdv ct), osl⟩) (hcd : PySem.W.codeIn K cdv qual = true) (S : FnScope N ps sc)
    (hk : F.K = K) (hw : F.w = w) (g : ClsG F K G) (hbody : ∀ (A : Around) (stk : List Env) (s : Shared) (H : Hp), Cz F WN G C n (pR P w K mg base stk N qual sc f cdv A s H) → PSs (pR P w K mg base stk N qual sc f cdv A s H) body (tS F WN fb)) :
    FnOk P w K mg base (L2.CX P w) (n + 1) f (PySem.W.fnOf name qual params body sc dV kV doc pm an cdv ct) ps (spC F (fun _ => uDef ps.length N.length fb) n ps.length) := by
  refine fn_of lk hcd S (fun vs H Q E h => h.1) fun A outer s H vs Q E hr ⟨hl, ρ, M, ws, rs, rw', q⟩ => ⟨_, PSs.nox (hbody A outer s H (cz_of hk hw g S.nd hr rfl rfl)), ρ, ws.map some ++ List.replicate (N.length - ws.length) none, M, rs, start_rel rw', ?_⟩
  have hlw : ws.length = ps.length := by rw [← rw'.length]; exact hl
  have eu : uDef ps.length N.length fb ws M = calmO (stepO fb N.length ws M) := by
    unfold uDef
    rw [decide_eq_true hlw]
  have q : oK F (Rp F) E Q ρ H (calmO (stepO fb N.length ws M)) := by rw [← eu]; exact q
  unfold stepO at q
  cases e : fb (ws.map some ++ List.replicate (N.length - ws.length) none) M with
  | next σ1 M1 => rw [e] at q; exact fun ρ' H' τ' x s _ => q ρ' .non H' x s rfl
  | ret w M1 => rw [e] at q; exact fun ρ' H' v x s r => q ρ' v H' x s r
  | exc c es σ1 M1 => rw [e] at q; exact q.elim
  | fail => rw [e] at q; exact q
/-- where a def's code stands -/
theorem code_ref {p : Str × Option Str} {oc : Value} {od : Option Addr} {osl : Array (Option Value)} {fd : FuncData} {cdv : Value} (lk : K.lookup (He.fAd K p) = some ⟨oc, od, .func fd, osl⟩) (e : fd.code = cdv) (hd : PySem.W.codeHdIn K (He.cT K p).1 (He.cT K p).2 = true) (hc : ∃ q, PySem.W.codeIn K cdv q = true) : cdv = .ref (He.cT K p).1 := by
  obtain ⟨q, hc⟩ := hc
  cases cdv with
  | ref c => rw [show (He.cT K p).1 = c from He.codeOf_eq lk e]
  | _ => cases hc
end
/-! ### the law's promise -/
def spLaw (K : PySem.W.Frag) (T : Addr) : Sp := fun vs H Q _ => ∃ (a : Addr) (ns : List Int), vs = [.ref a] ∧ ns.length ≤ 63 ∧ SqL K H a (ns.map V.int) ∧ H T = some (.tbl #[]) ∧ ∀ H', Q (.bl true) H'
def lawF (u1 u2 : List W → Store → Out W) (R : FS) : FS := (sSeq (sSet (.n 1) (fCall false 0 u1 (fOne (fVar 0) (fOne (fCon (.int 20)) fNil)))) (sSeq (sSet (.n 2) (fBin ixW (fLst true (fOne (fTup (fOne (fCon (.str "a")) (fOne (fCon (.str "b")) (fOne (fCon (.str "x")) (fOne (fCon (.str "y")) fNil))))) (fOne (fTup (fOne (fCon (.str "main")) (fOne (fCon (.str "spare")) (fOne (fCon (.str "copy")) (fOne (fCon (.str "take")) fNil))))) fNil))) (fCall false 0 u2 (fOne (fVar 1) (fOne (fCon (.int 2)) fNil))))) R))
theorem lawF_eq : fb_law = lawF u__law_mix u__law_next fb_law_rest := rfl
theorem lawF_ok0 {u1 u2 : List W → Store → Out W} {R : FS} {o : MObj} {M1 M2 : Store} (h1 : u1 [.ref 0, .int 20] [o] = .ok (.ref 2) M1) (h2 : u2 [.ref 2, .int 2] M1 = .ok (.int 0) M2) : lawF u1 u2 R [some (.ref 0), none, none, none, none, none, none, none, none, none, none, none, none, none, none] [o] = R [some (.ref 0), some (.ref 2), some (.tup [.str "a", .str "b", .str "x", .str "y"]), none, none, none, none, none, none, none, none, none, none, none, none] M2 := by
  have k1 := congrArg (fun q : Out W => lawF (fun _ _ => q) u2 R [some (.ref 0), none, none, none, none, none, none, none, none, none, none, none, none, none, none] [o]) h1
  have k2 := congrArg (fun q : Out W => lawF (fun _ _ => .ok (.ref 2) M1) (fun _ _ => q) R [some (.ref 0), none, none, none, none, none, none, none, none, none, none, none, none, none, none] [o]) h2
  exact k1.trans (k2.trans rfl)
theorem lawF_ok1 {u1 u2 : List W → Store → Out W} {R : FS} {o : MObj} {M1 M2 : Store} (h1 : u1 [.ref 0, .int 20] [o] = .ok (.ref 2) M1) (h2 : u2 [.ref 2, .int 2] M1 = .ok (.int 1) M2) : lawF u1 u2 R [some (.ref 0), none, none, none, none, none, none, none, none, none, none, none, none, none, none] [o] = R [some (.ref 0), some (.ref 2), some (.tup [.str "main", .str "spare", .str "copy", .str "take"]), none, none, none, none, none, none, none, none, none, none, none, none] M2 := by
  have k1 := congrArg (fun q : Out W => lawF (fun _ _ => q) u2 R [some (.ref 0), none, none, none, none, none, none, none, none, none, none, none, none, none, none] [o]) h1
  have k2 := congrArg (fun q : Out W => lawF (fun _ _ => .ok (.ref 2) M1) (fun _ _ => q) R [some (.ref 0), none, none, none, none, none, none, none, none, none, none, none, none, none, none] [o]) h2
  exact k1.trans (k2.trans rfl)
theorem law_main {ns : List Int} {o : MObj} (h : ScrO ns o) (hl : ns.length ≤ 63) : ∃ M, fb_law [some (.ref 0), none, none, none, none, none, none, none, none, none, none, none, none, none, none] [o] = .ret (.bl true) M := by
  obtain ⟨st, e1⟩ := mix_ok h hl
  obtain ⟨r, M2, hr, ⟨o2, cs, a, c, hM⟩, e2⟩ := next_ok (st := st) hl
  rw [lawF_eq]
  rcases hr with rfl | rfl
  · obtain ⟨M3, e3⟩ := rest_0r o2 cs a c
    refine ⟨M3, (lawF_ok0 e1 e2).trans ?_⟩
    rw [hM]; exact e3
  · obtain ⟨M3, e3⟩ := rest_1r o2 cs a c
    refine ⟨M3, (lawF_ok1 e1 e2).trans ?_⟩
    rw [hM]; exact e3
theorem u_ret {fb : FS} {w : W} {o : MObj} {k : Nat} (h : ∃ M, fb (some (.ref 0) :: List.replicate k none) [o] = .ret w M) : ∃ M, uDef 1 (k + 1) fb [.ref 0] [o] = .ok w M := by
  obtain ⟨M, e⟩ := h
  refine ⟨M, ?_⟩
  show calmO (match fb (some (.ref 0) :: List.replicate k none) [o] with
    | .next _ M1 => Out.ok .non M1
    | .ret w M1 => .ok w M1
    | .exc c es _ M1 => .exc c es M1
    | .fail => .fail) = _
  rw [e]
  rfl
theorem law_val {ns : List Int} {o : MObj} (h : ScrO ns o) (hl : ns.length ≤ 63) : ∃ M, u_law [.ref 0] [o] = .ok (.bl true) M := u_ret (k := 14) (law_main h hl)
theorem rps_ints {F : Fx} {ρ : List Addr} {H : Hp} : ∀ ns : List Int, Rps F ρ H (iW ns) (ns.map V.int)
  | [] => rfl
  | i :: ns => ⟨.int i, _, rfl, rfl, rps_ints ns⟩
theorem law_sp {F : Fx} {K : PySem.W.Frag} {T : Addr} {n : Nat} (hT : F.T = [T]) (hL : noListB K = true) {vs : List V} {H : Hp} {Q : VK} {E : XK} (h : spLaw K T vs H Q E) : spC F (fun _ => u_law) n 1 vs H Q E := by
  obtain ⟨a, ns, rfl, hl, hS, ht, q⟩ := h
  have tab : ∀ p ∈ F.T, TQ H p true := fun p hp => by
    rw [hT] at hp
    rw [List.mem_singleton.mp hp]
    exact LamX.TabS.nil ht
  have fin : ∀ o : MObj, ScrO ns o → ObR F [a] H a o → ∃ ρ M ws, RelS F ρ H M ∧ Rps F ρ H ws [.ref a] ∧ oK F (Rp F) E Q ρ H (u_law ws M) := fun o ho ob => by
    obtain ⟨M, e⟩ := law_val ho hl
    refine ⟨[a], [o], [.ref 0], ⟨rfl, by simp, fun l o' b h1 h2 => ?_, tab⟩, ⟨.ref a, [], rfl, ⟨a, rfl, rfl⟩, rfl⟩, ?_⟩
    · match l, h1, h2 with
      | 0, h1, h2 => cases h1; cases h2; exact ob
      | _ + 1, h1, h2 => simp at h1
    · rw [e]
      exact fun ρ' b H' x s r => by cases (show b = .bl true from r); exact q H'
  refine ⟨rfl, ?_⟩
  rcases hS with (hS | ⟨o, hS⟩) | ⟨o, its, k, h1, h2, _⟩
  · exact fin (.lst (iW ns)) (.inl rfl) ⟨_, hS, rps_ints ns⟩
  · exact fin (.frz (.lst (iW ns))) (.inr rfl) ⟨⟨a, _, rfl, ⟨o, hS⟩, rps_ints ns⟩, o, _, hS⟩
  · exact absurd h2 (noList_ok hL h1)
end Ms
set_option Elab.async false
set_option linter.all false
set_option maxRecDepth 100000
set_option maxHeartbeats 4000000
namespace Ms
open PySem PySem.Spec PyProof.Rows L2 Mp Mg Mh

section
variable {P : Program} {w : World} {K : PySem.W.Frag} {mg : Str → Option Value} {h : Heap}
abbrev Pt (K : PySem.W.Frag) : Addr := (He.cT K ("send_findings", none)).2
abbrev Pc (K : PySem.W.Frag) : Addr := (He.cT K ("send_findings", none)).1
def FF (w : World) (K : PySem.W.Frag) : Fx where
  w := w
  K := K
  cA := fun n => match n with
    | 0 => some (He.ga K "Book")
    | 1 => some (He.ga K "Hand")
    | 2 => some (He.ga K "Record")
    | _ => none
  sl := fun n => match n with
    | 0 => some ["copy_word", "needed", "persons", "size", "take_word", "told"]
    | _ => none
  T := [Pt K]
theorem cls_G0 (X : K.In h) (c : SaysP fa fn ts tf ps exB w h K) : ClsG (FF w K) K G0 := by
  have d := c.x.t.d
  have e := c.ex_
  simp only [exB, Bool.and_eq_true] at e
  obtain ⟨_, e0, e1, e2, e3, e4, e5, e6, e7, e8, e9, e10, e11, e12, e13, e14⟩ := e
  refine ⟨fun c i h => ?_, fun c i h => ?_⟩
  · match c, h with
    | 0, h => cases h; rfl
    | 1, h => cases h; rfl
    | 2, h => cases h; rfl
    | _ + 3, h => cases h
  · match c, h with
    | 0, h =>
      cases h
      have sc := scl_ok e5
      refine ⟨He.ga K "Book", fun ns e f hf => ?_, rfl, sc.pg, sc.ic, fun z => (nomatch z), fun ns e => ?_⟩
      · cases e
        simp only [List.mem_cons, List.not_mem_nil, or_false] at hf
        rcases hf with rfl | rfl | rfl | rfl | rfl | rfl
        · exact ⟨1, rfl⟩
        · exact ⟨2, rfl⟩
        · exact ⟨3, rfl⟩
        · exact ⟨0, rfl⟩
        · exact ⟨4, rfl⟩
        · exact ⟨5, rfl⟩
      · cases e
        refine ⟨sc, fun i f hi => ?_⟩
        match i, hi with
        | 0, hi => cases hi; exact ⟨_, slt_ok e6⟩
        | 1, hi => cases hi; exact ⟨_, slt_ok e7⟩
        | 2, hi => cases hi; exact ⟨_, slt_ok e8⟩
        | 3, hi => cases hi; exact ⟨_, slt_ok e9⟩
        | 4, hi => cases hi; exact ⟨_, slt_ok e10⟩
        | 5, hi => cases hi; exact ⟨_, slt_ok e11⟩
        | _ + 6, hi => simp at hi
    | 1, h =>
      cases h
      have cl := He.cls_ok (x := "Hand") (d.fact 71 rfl)
      refine ⟨He.ga K "Hand", fun ns e => (nomatch e), rfl, cl.pg, e12, fun _ => ⟨cl, fun f hf => ?_⟩, fun ns e => (nomatch e)⟩
      simp only [List.mem_cons, List.not_mem_nil, or_false] at hf
      rcases hf with rfl | rfl | rfl
      · exact He.noat_ok (x := "Hand") (f := "plan") (d.fact 73 rfl)
      · exact He.noat_ok (x := "Hand") (f := "held") (d.fact 74 rfl)
      · exact He.noat_ok (x := "Hand") (f := "noted") (d.fact 75 rfl)
    | 2, h =>
      cases h
      have cl := He.cls_ok (x := "Record") (d.fact 72 rfl)
      refine ⟨He.ga K "Record", fun ns e => (nomatch e), rfl, cl.pg, e13, fun _ => ⟨cl, fun f hf => ?_⟩, fun ns e => (nomatch e)⟩
      simp only [List.mem_cons, List.not_mem_nil, or_false] at hf
      rcases hf with rfl | rfl | rfl | rfl | rfl
      · exact He.noat_ok (x := "Record") (f := "plan") (d.fact 76 rfl)
      · exact He.noat_ok (x := "Record") (f := "at") (d.fact 77 rfl)
      · exact He.noat_ok (x := "Record") (f := "done") (d.fact 78 rfl)
      · exact He.noat_ok (x := "Record") (f := "sends") (d.fact 79 rfl)
      · exact He.noat_ok (x := "Record") (f := "told_findings") (d.fact 80 rfl)
    | _ + 3, h => cases h
theorem cls_G1 (X : K.In h) (c : SaysP fa fn ts tf ps exB w h K) : ClsG (FF w K) K G1 := by
  have d := c.x.t.d
  have e := c.ex_
  simp only [exB, Bool.and_eq_true] at e
  obtain ⟨_, e0, e1, e2, e3, e4, e5, e6, e7, e8, e9, e10, e11, e12, e13, e14⟩ := e
  refine ⟨fun c i h => ?_, fun c i h => ?_⟩
  · match c, h with
    | 0, h => cases h; rfl
    | 1, h => cases h; rfl
    | 2, h => cases h; rfl
    | _ + 3, h => cases h
  · match c, h with
    | 0, h =>
      cases h
      have sc := scl_ok e5
      refine ⟨He.ga K "Book", fun ns e f hf => ?_, rfl, sc.pg, sc.ic, fun z => (nomatch z), fun ns e => ?_⟩
      · cases e
        simp only [List.mem_cons, List.not_mem_nil, or_false] at hf
        rcases hf with rfl | rfl | rfl | rfl | rfl | rfl
        · exact ⟨1, rfl⟩
        · exact ⟨2, rfl⟩
        · exact ⟨3, rfl⟩
        · exact ⟨0, rfl⟩
        · exact ⟨4, rfl⟩
        · exact ⟨5, rfl⟩
      · cases e
        refine ⟨sc, fun i f hi => ?_⟩
        match i, hi with
        | 0, hi => cases hi; exact ⟨_, slt_ok e6⟩
        | 1, hi => cases hi; exact ⟨_, slt_ok e7⟩
        | 2, hi => cases hi; exact ⟨_, slt_ok e8⟩
        | 3, hi => cases hi; exact ⟨_, slt_ok e9⟩
        | 4, hi => cases hi; exact ⟨_, slt_ok e10⟩
        | 5, hi => cases hi; exact ⟨_, slt_ok e11⟩
        | _ + 6, hi => simp at hi
    | 1, h =>
      cases h
      have cl := He.cls_ok (x := "Hand") (d.fact 71 rfl)
      refine ⟨He.ga K "Hand", fun ns e => (nomatch e), rfl, cl.pg, e12, fun _ => ⟨cl, fun f hf => ?_⟩, fun ns e => (nomatch e)⟩
      simp only [List.mem_cons, List.not_mem_nil, or_false] at hf
      rcases hf with rfl | rfl | rfl
      · exact He.noat_ok (x := "Hand") (f := "plan") (d.fact 73 rfl)
      · exact He.noat_ok (x := "Hand") (f := "held") (d.fact 74 rfl)
      · exact He.noat_ok (x := "Hand") (f := "noted") (d.fact 75 rfl)
    | 2, h =>
      cases h
      have cl := He.cls_ok (x := "Record") (d.fact 72 rfl)
      refine ⟨He.ga K "Record", fun ns e => (nomatch e), rfl, cl.pg, e13, fun _ => ⟨cl, fun f hf => ?_⟩, fun ns e => (nomatch e)⟩
      simp only [List.mem_cons, List.not_mem_nil, or_false] at hf
      rcases hf with rfl | rfl | rfl | rfl | rfl
      · exact He.noat_ok (x := "Record") (f := "plan") (d.fact 76 rfl)
      · exact He.noat_ok (x := "Record") (f := "at") (d.fact 77 rfl)
      · exact He.noat_ok (x := "Record") (f := "done") (d.fact 78 rfl)
      · exact He.noat_ok (x := "Record") (f := "sends") (d.fact 79 rfl)
      · exact He.noat_ok (x := "Record") (f := "told_findings") (d.fact 80 rfl)
    | _ + 3, h => cases h
end
theorem facts {w : World} {K : PySem.W.Frag} {h : Heap} {mg : Str → Option Value} {fl : Addr} (X : K.In h) (G : h.Ns mainGlobals mg) (hfa : mg ("law" : Str) = some (.ref fl)) (c : SaysP fa fn ts tf ps exB w h K) : LamX.LawAtS PySem.Challenge.rw_signedoff_k20_a_known_book w K (L2.CX (PySem.Challenge.rw_signedoff_k20_a_known_book).prog w) 9 63 "_law_script" mg fl h := by
  have d := c.x.t.d
  have cg := cls_G0 X c
  have cg1 := cls_G1 X c
  have e := c.ex_
  simp only [exB, Bool.and_eq_true] at e
  obtain ⟨eL, e0, e1, e2, e3, e4, e5, e6, e7, e8, e9, e10, e11, e12, e13, e14⟩ := e
  have gl : ∀ (i : Nat) (x : Str), fa[i]? = some (.glo x) → mg x = some (.ref (He.ga K x)) := fun i x e => He.glo_ok X G (d.fact i e)
  have fr : ∀ (i : Nat) (x : Str), fa[i]? = some (.free x) → mg x = none := fun i x e => He.free_ok X G (d.fact i e)
  have n_all : mg "all" = none := fr 38 "all" rfl
  have n_bool : mg "bool" = none := fr 39 "bool" rfl
  have n_dict : mg "dict" = none := fr 40 "dict" rfl
  have n_enumerate : mg "enumerate" = none := fr 41 "enumerate" rfl
  have n_int : mg "int" = none := fr 42 "int" rfl
  have n_isinstance : mg "isinstance" = none := fr 43 "isinstance" rfl
  have n_len : mg "len" = none := fr 44 "len" rfl
  have n_list : mg "list" = none := fr 45 "list" rfl
  have n_max : mg "max" = none := fr 46 "max" rfl
  have n_range : mg "range" = none := fr 47 "range" rfl
  have n_set : mg "set" = none := fr 48 "set" rfl
  have n_sorted : mg "sorted" = none := fr 49 "sorted" rfl
  have n_str : mg "str" = none := fr 50 "str" rfl
  have n_tuple : mg "tuple" = none := fr 51 "tuple" rfl
  have n_zip : mg "zip" = none := fr 52 "zip" rfl
  have k_COPY : GVal (FF w K) mg "COPY" w_COPY := gv_str (He.str_ok X G (x := "COPY") (z := "copy") (d.fact 53 rfl))
  have k_LETTERS : GVal (FF w K) mg "LETTERS" w_LETTERS := gv_str (He.str_ok X G (x := "LETTERS") (z := "abcdefghijklmnopqrstuvwxyz") (d.fact 54 rfl))
  have k_MAIN : GVal (FF w K) mg "MAIN" w_MAIN := gv_str (He.str_ok X G (x := "MAIN") (z := "main") (d.fact 55 rfl))
  have k_SEND : GVal (FF w K) mg "SEND" w_SEND := gv_str (He.str_ok X G (x := "SEND") (z := "send") (d.fact 56 rfl))
  have k_SIGN : GVal (FF w K) mg "SIGN" w_SIGN := gv_str (He.str_ok X G (x := "SIGN") (z := "sign") (d.fact 57 rfl))
  have k_SPARE : GVal (FF w K) mg "SPARE" w_SPARE := gv_str (He.str_ok X G (x := "SPARE") (z := "spare") (d.fact 58 rfl))
  have k_TAKE : GVal (FF w K) mg "TAKE" w_TAKE := gv_str (He.str_ok X G (x := "TAKE") (z := "take") (d.fact 59 rfl))
  have k_UNSIGN : GVal (FF w K) mg "UNSIGN" w_UNSIGN := gv_str (He.str_ok X G (x := "UNSIGN") (z := "unsign") (d.fact 60 rfl))
  have k_WRITE : GVal (FF w K) mg "WRITE" w_WRITE := gv_str (He.str_ok X G (x := "WRITE") (z := "write") (d.fact 61 rfl))
  have k_MOST_NAME : GVal (FF w K) mg "MOST_NAME" w_MOST_NAME := gv_int (He.int_ok X G (x := "MOST_NAME") (i := 8) (d.fact 62 rfl))
  have k_MOST_NAMES : GVal (FF w K) mg "MOST_NAMES" w_MOST_NAMES := gv_int (He.int_ok X G (x := "MOST_NAMES") (i := 3) (d.fact 63 rfl))
  have k_MOST_NEEDED : GVal (FF w K) mg "MOST_NEEDED" w_MOST_NEEDED := gv_int (He.int_ok X G (x := "MOST_NEEDED") (i := 3) (d.fact 64 rfl))
  have k_BINDINGS : GVal (FF w K) mg "BINDINGS" w_BINDINGS := gv_tup (gl 65 "BINDINGS" rfl) (fun H => He.tupB_ok e0 H) (fun ρ H => by repeat' (first | exact rfl | refine ⟨_, _, rfl, rfl, ?_⟩))
  have k_MANNERS : GVal (FF w K) mg "MANNERS" w_MANNERS := gv_tup (gl 66 "MANNERS" rfl) (fun H => He.tupB_ok e1 H) (fun ρ H => by repeat' (first | exact rfl | refine ⟨_, _, rfl, rfl, ?_⟩))
  have k_NOTHING : GVal (FF w K) mg "NOTHING" w_NOTHING := gv_tup (gl 67 "NOTHING" rfl) (fun H => He.tupB_ok e2 H) (fun ρ H => by repeat' (first | exact rfl | refine ⟨_, _, rfl, rfl, ?_⟩))
  have k_THINGS : GVal (FF w K) mg "THINGS" w_THINGS := gv_tup (gl 68 "THINGS" rfl) (fun H => He.tupB_ok e3 H) (fun ρ H => by repeat' (first | exact rfl | refine ⟨_, _, rfl, rfl, ?_⟩))
  have k_WORDS : GVal (FF w K) mg "WORDS" w_WORDS := gv_tup (gl 69 "WORDS" rfl) (fun H => He.tupB_ok e4 H) (fun ρ H => by repeat' (first | exact rfl | refine ⟨_, _, rfl, rfl, ?_⟩))
  have k_SIZES : GVal (FF w K) mg "SIZES" w_SIZES := gv_dic (ks := ["copy", "send", "sign", "take", "unsign", "write"]) (vs := [1, 2, 3, 2, 3, 4]) (gl 70 "SIZES" rfl) c.x.t rfl e14 rfl (by decide) (by decide)
  obtain ⟨f__law_mix, F__law_mix⟩ := d.def_ 0 (d := dF "_law_mix" s__law_mix) rfl
  obtain ⟨f_first_standing, F_first_standing⟩ := d.def_ 1 (d := dF "first_standing" s_first_standing) rfl
  obtain ⟨f_has_enough, F_has_enough⟩ := d.def_ 2 (d := dF "has_enough" s_has_enough) rfl
  obtain ⟨f_people_with, F_people_with⟩ := d.def_ 3 (d := dF "people_with" s_people_with) rfl
  obtain ⟨f_does_count, F_does_count⟩ := d.def_ 4 (d := dF "does_count" s_does_count) rfl
  obtain ⟨f_counting_at, F_counting_at⟩ := d.def_ 5 (d := dF "counting_at" s_counting_at) rfl
  obtain ⟨f_goes_out, F_goes_out⟩ := d.def_ 6 (d := dF "goes_out" s_goes_out) rfl
  obtain ⟨f_send_findings, F_send_findings⟩ := d.def_ 7 (d := dF "send_findings" s_send_findings) rfl
  obtain ⟨f_lost_people, F_lost_people⟩ := d.def_ 8 (d := dF "lost_people" s_lost_people) rfl
  obtain ⟨f_findings_of, F_findings_of⟩ := d.def_ 9 (d := dF "findings_of" s_findings_of) rfl
  obtain ⟨f_is_sent, F_is_sent⟩ := d.def_ 10 (d := dF "is_sent" s_is_sent) rfl
  obtain ⟨f_is_thing, F_is_thing⟩ := d.def_ 11 (d := dF "is_thing" s_is_thing) rfl
  obtain ⟨f_is_one_of, F_is_one_of⟩ := d.def_ 12 (d := dF "is_one_of" s_is_one_of) rfl
  obtain ⟨f_is_integer, F_is_integer⟩ := d.def_ 13 (d := dF "is_integer" s_is_integer) rfl
  obtain ⟨f_is_deed, F_is_deed⟩ := d.def_ 14 (d := dF "is_deed" s_is_deed) rfl
  obtain ⟨f_index_of, F_index_of⟩ := d.def_ 15 (d := dF "index_of" s_index_of) rfl
  obtain ⟨f_replaced, F_replaced⟩ := d.def_ 16 (d := dF "replaced" s_replaced) rfl
  obtain ⟨f_stale, F_stale⟩ := d.def_ 17 (d := dF "stale" s_stale) rfl
  obtain ⟨f_put_together, F_put_together⟩ := d.def_ 18 (d := dF "put_together" s_put_together) rfl
  obtain ⟨f_led_to, F_led_to⟩ := d.def_ 19 (d := dF "led_to" s_led_to) rfl
  obtain ⟨f_replay, F_replay⟩ := d.def_ 20 (d := dF "replay" s_replay) rfl
  obtain ⟨f_are_of, F_are_of⟩ := d.def_ 21 (d := dF "are_of" s_are_of) rfl
  obtain ⟨f_is_binding, F_is_binding⟩ := d.def_ 22 (d := dF "is_binding" s_is_binding) rfl
  obtain ⟨f_is_person, F_is_person⟩ := d.def_ 23 (d := dF "is_person" s_is_person) rfl
  obtain ⟨f_is_name, F_is_name⟩ := d.def_ 24 (d := dF "is_name" s_is_name) rfl
  obtain ⟨f_look_at_people, F_look_at_people⟩ := d.def_ 25 (d := dF "look_at_people" s_look_at_people) rfl
  obtain ⟨f_are_parts, F_are_parts⟩ := d.def_ 26 (d := dF "are_parts" s_are_parts) rfl
  obtain ⟨f__law_book_of, F__law_book_of⟩ := d.def_ 27 (d := dF "_law_book_of" s__law_book_of) rfl
  obtain ⟨f__law_pieces, F__law_pieces⟩ := d.def_ 28 (d := dF "_law_pieces" s__law_pieces) rfl
  obtain ⟨f__law_next, F__law_next⟩ := d.def_ 29 (d := dF "_law_next" s__law_next) rfl
  obtain ⟨f_look_at_thing, F_look_at_thing⟩ := d.def_ 30 (d := dF "look_at_thing" s_look_at_thing) rfl
  obtain ⟨f_counting, F_counting⟩ := d.def_ 31 (d := dF "counting" s_counting) rfl
  obtain ⟨f_asks, F_asks⟩ := d.def_ 32 (d := dF "asks" s_asks) rfl
  obtain ⟨f_law, F_law⟩ := d.def_ 33 (d := dF "law" s_law) rfl
  obtain ⟨f_subsets, F_subsets⟩ := d.def_ 34 (d := dF "subsets" s_subsets) rfl
  obtain ⟨f_Record___init__, F_Record___init__⟩ := d.def_ 35 (d := dM "Record" "__init__" "Record.__init__" s_Record___init__) rfl
  obtain ⟨f_Record_take_in, F_Record_take_in⟩ := d.def_ 36 (d := dM "Record" "take_in" "Record.take_in" s_Record_take_in) rfl
  obtain ⟨f_Hand___init__, F_Hand___init__⟩ := d.def_ 37 (d := dM "Hand" "__init__" "Hand.__init__" s_Hand___init__) rfl
  obtain ⟨f_Hand_copy_main, F_Hand_copy_main⟩ := d.def_ 38 (d := dM "Hand" "copy_main" "Hand.copy_main" s_Hand_copy_main) rfl
  obtain ⟨f_Hand_taken, F_Hand_taken⟩ := d.def_ 39 (d := dM "Hand" "taken" "Hand.taken" s_Hand_taken) rfl
  obtain ⟨f_Hand_take, F_Hand_take⟩ := d.def_ 40 (d := dM "Hand" "take" "Hand.take" s_Hand_take) rfl
  obtain ⟨f_Hand_put_note, F_Hand_put_note⟩ := d.def_ 41 (d := dM "Hand" "put_note" "Hand.put_note" s_Hand_put_note) rfl
  obtain ⟨f_Hand_do, F_Hand_do⟩ := d.def_ 42 (d := dM "Hand" "do" "Hand.do" s_Hand_do) rfl
  obtain ⟨f_Hand_standing, F_Hand_standing⟩ := d.def_ 43 (d := dM "Hand" "standing" "Hand.standing" s_Hand_standing) rfl
  obtain ⟨f_Hand_note, F_Hand_note⟩ := d.def_ 44 (d := dM "Hand" "note" "Hand.note" s_Hand_note) rfl
  obtain ⟨f_Hand_can_be, F_Hand_can_be⟩ := d.def_ 45 (d := dM "Hand" "can_be" "Hand.can_be" s_Hand_can_be) rfl
  obtain ⟨f_Book___init__, F_Book___init__⟩ := d.def_ 46 (d := dM "Book" "__init__" "Book.__init__" s_Book___init__) rfl
  obtain ⟨po_Record_notes, f_Record_notes, F_Record_notes⟩ := c.prop 0 (d := (("Record", "notes"), dM "Record" "notes" "Record.notes" s_Record_notes)) rfl
  obtain ⟨po_Record_sent, f_Record_sent, F_Record_sent⟩ := c.prop 1 (d := (("Record", "sent"), dM "Record" "sent" "Record.sent" s_Record_sent)) rfl
  obtain ⟨po_Record_found, f_Record_found, F_Record_found⟩ := c.prop 2 (d := (("Record", "found"), dM "Record" "found" "Record.found" s_Record_found)) rfl
  have b_law_mix_ : L2.Binds K f__law_mix ["_law_script", "_law_seed"] [] := F__law_mix.bindsN fun _ _ _ _ _ _ us hl => match us, hl with | [_, _], _ => rfl
  have bfirst_standing_ : L2.Binds K f_first_standing ["book"] [] := F_first_standing.bindsN fun _ _ _ _ _ _ us hl => match us, hl with | [_], _ => rfl
  have bhas_enough_ : L2.Binds K f_has_enough ["book", "found"] [] := F_has_enough.bindsN fun _ _ _ _ _ _ us hl => match us, hl with | [_, _], _ => rfl
  have bpeople_with_ : L2.Binds K f_people_with ["book", "notes", "is_good"] [] := F_people_with.bindsN fun _ _ _ _ _ _ us hl => match us, hl with | [_, _, _], _ => rfl
  have bdoes_count_ : L2.Binds K f_does_count ["binding", "signature", "contents", "index"] [] := F_does_count.bindsN fun _ _ _ _ _ _ us hl => match us, hl with | [_, _, _, _], _ => rfl
  have bcounting_at_ : L2.Binds K f_counting_at ["book", "contents", "notes"] [] := F_counting_at.bindsN fun _ _ _ _ _ _ us hl => match us, hl with | [_, _, _], _ => rfl
  have bgoes_out_ : L2.Binds K f_goes_out ["book", "contents", "notes"] [] := F_goes_out.bindsN fun _ _ _ _ _ _ us hl => match us, hl with | [_, _, _], _ => rfl
  have bsend_findings_ : L2.Binds K f_send_findings ["book", "thing", "contents", "notes"] [] := F_send_findings.bindsN fun _ _ _ _ _ _ us hl => match us, hl with | [_, _, _, _], _ => rfl
  have blost_people_ : L2.Binds K f_lost_people ["book", "deed", "before", "behind"] [] := F_lost_people.bindsN fun _ _ _ _ _ _ us hl => match us, hl with | [_, _, _, _], _ => rfl
  have bfindings_of_ : L2.Binds K f_findings_of ["book", "deed", "before", "behind"] [] := F_findings_of.bindsN fun _ _ _ _ _ _ us hl => match us, hl with | [_, _, _, _], _ => rfl
  have bis_sent_ : L2.Binds K f_is_sent ["book", "standing", "thing"] [] := F_is_sent.bindsN fun _ _ _ _ _ _ us hl => match us, hl with | [_, _, _], _ => rfl
  have bis_thing_ : L2.Binds K f_is_thing ["value"] [] := F_is_thing.bindsN fun _ _ _ _ _ _ us hl => match us, hl with | [_], _ => rfl
  have bis_one_of_ : L2.Binds K f_is_one_of ["value", "names"] [] := F_is_one_of.bindsN fun _ _ _ _ _ _ us hl => match us, hl with | [_, _], _ => rfl
  have bis_integer_ : L2.Binds K f_is_integer ["value"] [] := F_is_integer.bindsN fun _ _ _ _ _ _ us hl => match us, hl with | [_], _ => rfl
  have bis_deed_ : L2.Binds K f_is_deed ["book", "value"] [] := F_is_deed.bindsN fun _ _ _ _ _ _ us hl => match us, hl with | [_, _], _ => rfl
  have bindex_of_ : L2.Binds K f_index_of ["names", "name"] [] := F_index_of.bindsN fun _ _ _ _ _ _ us hl => match us, hl with | [_, _], _ => rfl
  have breplaced_ : L2.Binds K f_replaced ["things", "index", "thing"] [] := F_replaced.bindsN fun _ _ _ _ _ _ us hl => match us, hl with | [_, _, _], _ => rfl
  have bstale_ : L2.Binds K f_stale ["note"] [] := F_stale.bindsN fun _ _ _ _ _ _ us hl => match us, hl with | [_], _ => rfl
  have bput_together_ : L2.Binds K f_put_together ["own", "index", "content", "many"] [] := F_put_together.bindsN fun _ _ _ _ _ _ us hl => match us, hl with | [_, _, _, _], _ => rfl
  have bled_to_ : L2.Binds K f_led_to ["book", "standing", "deed"] [] := F_led_to.bindsN fun _ _ _ _ _ _ us hl => match us, hl with | [_, _, _], _ => rfl
  have breplay_ : L2.Binds K f_replay ["book", "deeds"] [] := F_replay.bindsN fun _ _ _ _ _ _ us hl => match us, hl with | [_, _], _ => rfl
  have bare_of_ : L2.Binds K f_are_of ["value", "words"] [] := F_are_of.bindsN fun _ _ _ _ _ _ us hl => match us, hl with | [_, _], _ => rfl
  have bis_binding_ : L2.Binds K f_is_binding ["value"] [] := F_is_binding.bindsN fun _ _ _ _ _ _ us hl => match us, hl with | [_], _ => rfl
  have bis_person_ : L2.Binds K f_is_person ["parts", "value"] [] := F_is_person.bindsN fun _ _ _ _ _ _ us hl => match us, hl with | [_, _], _ => rfl
  have bis_name_ : L2.Binds K f_is_name ["value"] [] := F_is_name.bindsN fun _ _ _ _ _ _ us hl => match us, hl with | [_], _ => rfl
  have blook_at_people_ : L2.Binds K f_look_at_people ["parts", "people"] [] := F_look_at_people.bindsN fun _ _ _ _ _ _ us hl => match us, hl with | [_, _], _ => rfl
  have bare_parts_ : L2.Binds K f_are_parts ["value"] [] := F_are_parts.bindsN fun _ _ _ _ _ _ us hl => match us, hl with | [_], _ => rfl
  have b_law_book_of_ : L2.Binds K f__law_book_of ["_law_n", "_law_binding", "_law_copying", "_law_taking"] [] := F__law_book_of.bindsN fun _ _ _ _ _ _ us hl => match us, hl with | [_, _, _, _], _ => rfl
  have b_law_pieces_ : L2.Binds K f__law_pieces ["_law_n", "_law_binding", "_law_copying", "_law_taking"] [] := F__law_pieces.bindsN fun _ _ _ _ _ _ us hl => match us, hl with | [_, _, _, _], _ => rfl
  have b_law_next_ : L2.Binds K f__law_next ["_law_h", "_law_bound"] [] := F__law_next.bindsN fun _ _ _ _ _ _ us hl => match us, hl with | [_, _], _ => rfl
  have blook_at_thing_ : L2.Binds K f_look_at_thing ["record", "thing"] [] := F_look_at_thing.bindsN fun _ _ _ _ _ _ us hl => match us, hl with | [_, _], _ => rfl
  have bcounting_ : L2.Binds K f_counting ["record", "thing"] [] := F_counting.bindsN fun _ _ _ _ _ _ us hl => match us, hl with | [_, _], _ => rfl
  have basks_ : L2.Binds K f_asks ["record", "thing"] [] := F_asks.bindsN fun _ _ _ _ _ _ us hl => match us, hl with | [_, _], _ => rfl
  have blaw_ : L2.Binds K f_law ["_law_script"] [] := F_law.bindsN fun _ _ _ _ _ _ us hl => match us, hl with | [_], _ => rfl
  have bsubsets_ : L2.Binds K f_subsets ["things", "many"] [] := F_subsets.bindsN fun _ _ _ _ _ _ us hl => match us, hl with | [_, _], _ => rfl
  have bRecord___init___ : L2.Binds K f_Record___init__ ["self", "book", "standing"] [] := F_Record___init__.bindsN fun _ _ _ _ _ _ us hl => match us, hl with | [_, _, _], _ => rfl
  have bRecord_take_in_ : L2.Binds K f_Record_take_in ["self", "deed", "later"] [] := F_Record_take_in.bindsN fun _ _ _ _ _ _ us hl => match us, hl with | [_, _, _], _ => rfl
  have bHand___init___ : L2.Binds K f_Hand___init__ ["self", "book", "standing"] [] := F_Hand___init__.bindsN fun _ _ _ _ _ _ us hl => match us, hl with | [_, _, _], _ => rfl
  have bHand_copy_main_ : L2.Binds K f_Hand_copy_main ["self"] [] := F_Hand_copy_main.bindsN fun _ _ _ _ _ _ us hl => match us, hl with | [_], _ => rfl
  have bHand_taken_ : L2.Binds K f_Hand_taken ["self", "note", "other", "index"] [] := F_Hand_taken.bindsN fun _ _ _ _ _ _ us hl => match us, hl with | [_, _, _, _], _ => rfl
  have bHand_take_ : L2.Binds K f_Hand_take ["self", "part"] [] := F_Hand_take.bindsN fun _ _ _ _ _ _ us hl => match us, hl with | [_, _], _ => rfl
  have bHand_put_note_ : L2.Binds K f_Hand_put_note ["self", "person", "thing", "note"] [] := F_Hand_put_note.bindsN fun _ _ _ _ _ _ us hl => match us, hl with | [_, _, _, _], _ => rfl
  have bHand_do_ : L2.Binds K f_Hand_do ["self", "deed"] [] := F_Hand_do.bindsN fun _ _ _ _ _ _ us hl => match us, hl with | [_, _], _ => rfl
  have bHand_standing_ : L2.Binds K f_Hand_standing ["self"] [] := F_Hand_standing.bindsN fun _ _ _ _ _ _ us hl => match us, hl with | [_], _ => rfl
  have bHand_note_ : L2.Binds K f_Hand_note ["self", "person", "thing"] [] := F_Hand_note.bindsN fun _ _ _ _ _ _ us hl => match us, hl with | [_, _, _], _ => rfl
  have bHand_can_be_ : L2.Binds K f_Hand_can_be ["self", "deed"] [] := F_Hand_can_be.bindsN fun _ _ _ _ _ _ us hl => match us, hl with | [_, _], _ => rfl
  have bBook___init___ : L2.Binds K f_Book___init__ ["self", "parts", "people", "contents", "copying", "taking", "words"] [] := F_Book___init__.bindsN fun _ _ _ _ _ _ us hl => match us, hl with | [_, _, _, _, _, _, _], _ => rfl
  have bRecord_notes_ : L2.Binds K f_Record_notes ["self"] [] := F_Record_notes.bindsN fun _ _ _ _ _ _ us hl => match us, hl with | [_], _ => rfl
  have bRecord_sent_ : L2.Binds K f_Record_sent ["self"] [] := F_Record_sent.bindsN fun _ _ _ _ _ _ us hl => match us, hl with | [_], _ => rfl
  have bRecord_found_ : L2.Binds K f_Record_found ["self"] [] := F_Record_found.bindsN fun _ _ _ _ _ _ us hl => match us, hl with | [_], _ => rfl
  have ef := hfa.symm.trans (gl 33 "law" rfl)
  cases ef
  have bl := FunD.bindsA (ps := ["_law_script"]) F_law fun _ _ _ _ _ _ us hl => match us, hl with | [_], _ => rfl
  have hdc : PySem.W.codeHdIn K (Pc K) (Pt K) = true := c.x.hd ("send_findings", none) (List.mem_singleton.mpr rfl)
  refine ⟨f_law, [(Pc K, Pt K)], spLaw K (Pt K), fun p hp => ?_, fun p hp => ?_, fun p hp => ?_, fun s v => bl s [v] rfl, fun H a ns hl _ hT hS => ⟨a, ns, rfl, hl, hS, hT _ (List.mem_singleton.mpr rfl), fun _ => rfl⟩, fun base Kb Gb hTB => ?_⟩
  · rw [List.mem_singleton.mp hp]
    exact c.x.empty ("send_findings", none) (List.mem_singleton.mpr rfl)
  · rw [List.mem_singleton.mp hp]
    exact c.x.out ("send_findings", none) (List.mem_singleton.mpr rfl)
  · rw [List.mem_singleton.mp hp]
    exact PySem.W.codeHd_of_K X hdc
  have TB : LamX.TabB base mg (Pc K) (Pt K) := hTB _ (List.mem_singleton.mpr rfl)
  have q_Record_notes : Cal (FF w K) (PySem.Challenge.rw_signedoff_k20_a_known_book).prog w K mg base u_Record_notes 0 (pAd K "Record" "notes") 1 := cal_of F_Record_notes sc_Record_notes bRecord_notes_ rfl rfl rfl cg fun cdv A stk s H z => b_Record_notes z k_MAIN k_SPARE n_dict n_zip
  have q_Record_sent : Cal (FF w K) (PySem.Challenge.rw_signedoff_k20_a_known_book).prog w K mg base u_Record_sent 1 (pAd K "Record" "sent") 1 := cal_of F_Record_sent sc_Record_sent bRecord_sent_ rfl rfl rfl cg fun cdv A stk s H z => b_Record_sent z n_list
  have q_Record_found : Cal (FF w K) (PySem.Challenge.rw_signedoff_k20_a_known_book).prog w K mg base u_Record_found 2 (pAd K "Record" "found") 1 := cal_of F_Record_found sc_Record_found bRecord_found_ rfl rfl rfl cg fun cdv A stk s H z => b_Record_found z n_list
  have q__law_mix : Cal (FF w K) (PySem.Challenge.rw_signedoff_k20_a_known_book).prog w K mg base u__law_mix 0 (He.ga K "_law_mix") 2 := cal_of F__law_mix sc__law_mix b_law_mix_ rfl rfl rfl cg fun cdv A stk s H z => b__law_mix z n_int n_list
  have q_Record___init__ : Cal (FF w K) (PySem.Challenge.rw_signedoff_k20_a_known_book).prog w K mg base u_Record___init__ 0 (He.ma K (He.ga K "Record") "__init__") 3 := cal_of F_Record___init__ sc_Record___init__ bRecord___init___ rfl rfl rfl cg fun cdv A stk s H z => b_Record___init__ z 
  have q_first_standing : Cal (FF w K) (PySem.Challenge.rw_signedoff_k20_a_known_book).prog w K mg base u_first_standing 0 (He.ga K "first_standing") 1 := cal_of F_first_standing sc_first_standing bfirst_standing_ rfl rfl rfl cg fun cdv A stk s H z => b_first_standing z k_NOTHING n_len
  have q_has_enough : Cal (FF w K) (PySem.Challenge.rw_signedoff_k20_a_known_book).prog w K mg base u_has_enough 0 (He.ga K "has_enough") 2 := cal_of F_has_enough sc_has_enough bhas_enough_ rfl rfl rfl cg fun cdv A stk s H z => b_has_enough z n_all n_len
  have q_does_count : Cal (FF w K) (PySem.Challenge.rw_signedoff_k20_a_known_book).prog w K mg base u_does_count 0 (He.ga K "does_count") 4 := cal_of F_does_count sc_does_count bdoes_count_ rfl rfl rfl cg fun cdv A stk s H z => b_does_count z 
  have c_does_count : CalN (FF w K) (PySem.Challenge.rw_signedoff_k20_a_known_book).prog w K mg base u_does_count 0 4 "does_count" := ⟨_, gl 4 "does_count" rfl, q_does_count⟩
  have q_counting_at : Cal (FF w K) (PySem.Challenge.rw_signedoff_k20_a_known_book).prog w K mg base u_counting_at 1 (He.ga K "counting_at") 3 := cal_of F_counting_at sc_counting_at bcounting_at_ rfl rfl rfl cg fun cdv A stk s H z => b_counting_at z c_does_count n_enumerate n_tuple n_zip
  have c_counting_at : CalN (FF w K) (PySem.Challenge.rw_signedoff_k20_a_known_book).prog w K mg base u_counting_at 1 3 "counting_at" := ⟨_, gl 5 "counting_at" rfl, q_counting_at⟩
  have c_has_enough : CalN (FF w K) (PySem.Challenge.rw_signedoff_k20_a_known_book).prog w K mg base u_has_enough 0 2 "has_enough" := ⟨_, gl 2 "has_enough" rfl, q_has_enough⟩
  have q_goes_out : Cal (FF w K) (PySem.Challenge.rw_signedoff_k20_a_known_book).prog w K mg base u_goes_out 2 (He.ga K "goes_out") 3 := cal_of F_goes_out sc_goes_out bgoes_out_ rfl rfl rfl cg fun cdv A stk s H z => b_goes_out z c_counting_at c_has_enough
  have c_goes_out : CalN (FF w K) (PySem.Challenge.rw_signedoff_k20_a_known_book).prog w K mg base u_goes_out 2 3 "goes_out" := ⟨_, gl 6 "goes_out" rfl, q_goes_out⟩
  have q_send_findings : Cal (FF w K) (PySem.Challenge.rw_signedoff_k20_a_known_book).prog w K mg base u_send_findings 3 (He.ga K "send_findings") 4 := by
    obtain ⟨oc, od, dV, kV, doc, pm, an, cdv, ct, osl, ex, lk, hcd, hD, hKw⟩ := F_send_findings.ex
    have ec : cdv = .ref (Pc K) := code_ref (p := ("send_findings", none)) lk (by rw [ex]) hdc ⟨_, hcd⟩
    subst ec ex
    exact ⟨⟨_, _, rfl, fnok_at lk hcd sc_send_findings rfl rfl cg fun A stk s H z => b_send_findings z rfl rfl (gl 3 "people_with" rfl) F_people_with bpeople_with_ cg c_goes_out c_has_enough n_enumerate n_list n_zip TB (List.mem_singleton.mpr rfl), bsend_findings_⟩, F_send_findings.kp, uDef_ar⟩
  have q_lost_people : Cal (FF w K) (PySem.Challenge.rw_signedoff_k20_a_known_book).prog w K mg base u_lost_people 2 (He.ga K "lost_people") 4 := cal_of F_lost_people sc_lost_people blost_people_ rfl rfl rfl cg fun cdv A stk s H z => b_lost_people z c_counting_at k_MAIN k_UNSIGN n_enumerate
  have c_lost_people : CalN (FF w K) (PySem.Challenge.rw_signedoff_k20_a_known_book).prog w K mg base u_lost_people 2 4 "lost_people" := ⟨_, gl 8 "lost_people" rfl, q_lost_people⟩
  have c_send_findings : CalN (FF w K) (PySem.Challenge.rw_signedoff_k20_a_known_book).prog w K mg base u_send_findings 3 4 "send_findings" := ⟨_, gl 7 "send_findings" rfl, q_send_findings⟩
  have q_findings_of : Cal (FF w K) (PySem.Challenge.rw_signedoff_k20_a_known_book).prog w K mg base u_findings_of 4 (He.ga K "findings_of") 4 := cal_of F_findings_of sc_findings_of bfindings_of_ rfl rfl rfl cg fun cdv A stk s H z => b_findings_of z c_lost_people c_send_findings k_MAIN k_SEND
  have q_is_sent : Cal (FF w K) (PySem.Challenge.rw_signedoff_k20_a_known_book).prog w K mg base u_is_sent 3 (He.ga K "is_sent") 3 := cal_of F_is_sent sc_is_sent bis_sent_ rfl rfl rfl cg fun cdv A stk s H z => b_is_sent z c_goes_out k_MAIN
  have c_findings_of : CalN (FF w K) (PySem.Challenge.rw_signedoff_k20_a_known_book).prog w K mg base u_findings_of 4 4 "findings_of" := ⟨_, gl 9 "findings_of" rfl, q_findings_of⟩
  have c_is_sent : CalN (FF w K) (PySem.Challenge.rw_signedoff_k20_a_known_book).prog w K mg base u_is_sent 3 3 "is_sent" := ⟨_, gl 10 "is_sent" rfl, q_is_sent⟩
  have q_Record_take_in : Cal (FF w K) (PySem.Challenge.rw_signedoff_k20_a_known_book).prog w K mg base u_Record_take_in 5 (He.ma K (He.ga K "Record") "take_in") 3 := cal_of F_Record_take_in sc_Record_take_in bRecord_take_in_ rfl rfl rfl cg fun cdv A stk s H z => b_Record_take_in z c_findings_of c_is_sent k_SEND n_len
  have q_is_thing : Cal (FF w K) (PySem.Challenge.rw_signedoff_k20_a_known_book).prog w K mg base u_is_thing 0 (He.ga K "is_thing") 1 := cal_of F_is_thing sc_is_thing bis_thing_ rfl rfl rfl cg fun cdv A stk s H z => b_is_thing z k_THINGS n_isinstance n_str
  have q_is_one_of : Cal (FF w K) (PySem.Challenge.rw_signedoff_k20_a_known_book).prog w K mg base u_is_one_of 0 (He.ga K "is_one_of") 2 := cal_of F_is_one_of sc_is_one_of bis_one_of_ rfl rfl rfl cg fun cdv A stk s H z => b_is_one_of z n_isinstance n_str
  have q_is_integer : Cal (FF w K) (PySem.Challenge.rw_signedoff_k20_a_known_book).prog w K mg base u_is_integer 0 (He.ga K "is_integer") 1 := cal_of F_is_integer sc_is_integer bis_integer_ rfl rfl rfl cg fun cdv A stk s H z => b_is_integer z n_bool n_int n_isinstance
  have c_is_integer : CalN (FF w K) (PySem.Challenge.rw_signedoff_k20_a_known_book).prog w K mg base u_is_integer 0 1 "is_integer" := ⟨_, gl 13 "is_integer" rfl, q_is_integer⟩
  have c_is_one_of : CalN (FF w K) (PySem.Challenge.rw_signedoff_k20_a_known_book).prog w K mg base u_is_one_of 0 2 "is_one_of" := ⟨_, gl 12 "is_one_of" rfl, q_is_one_of⟩
  have c_is_thing : CalN (FF w K) (PySem.Challenge.rw_signedoff_k20_a_known_book).prog w K mg base u_is_thing 0 1 "is_thing" := ⟨_, gl 11 "is_thing" rfl, q_is_thing⟩
  have q_is_deed : Cal (FF w K) (PySem.Challenge.rw_signedoff_k20_a_known_book).prog w K mg base u_is_deed 1 (He.ga K "is_deed") 2 := cal_of F_is_deed sc_is_deed bis_deed_ rfl rfl rfl cg fun cdv A stk s H z => b_is_deed z c_is_integer c_is_one_of c_is_thing k_COPY k_SEND k_SIGN k_SIZES k_TAKE k_UNSIGN n_isinstance n_len n_str n_tuple
  have q_Hand___init__ : Cal (FF w K) (PySem.Challenge.rw_signedoff_k20_a_known_book).prog w K mg base u_Hand___init__ 0 (He.ma K (He.ga K "Hand") "__init__") 3 := cal_of F_Hand___init__ sc_Hand___init__ bHand___init___ rfl rfl rfl cg fun cdv A stk s H z => b_Hand___init__ z k_MAIN k_SPARE
  have q_Hand_copy_main : Cal (FF w K) (PySem.Challenge.rw_signedoff_k20_a_known_book).prog w K mg base u_Hand_copy_main 0 (He.ma K (He.ga K "Hand") "copy_main") 1 := cal_of F_Hand_copy_main sc_Hand_copy_main bHand_copy_main_ rfl rfl rfl cg fun cdv A stk s H z => b_Hand_copy_main z k_MAIN k_SPARE n_tuple
  have q_index_of : Cal (FF w K) (PySem.Challenge.rw_signedoff_k20_a_known_book).prog w K mg base u_index_of 0 (He.ga K "index_of") 2 := cal_of F_index_of sc_index_of bindex_of_ rfl rfl rfl cg fun cdv A stk s H z => b_index_of z n_list
  have q_replaced : Cal (FF w K) (PySem.Challenge.rw_signedoff_k20_a_known_book).prog w K mg base u_replaced 0 (He.ga K "replaced") 3 := cal_of F_replaced sc_replaced breplaced_ rfl rfl rfl cg fun cdv A stk s H z => b_replaced z 
  have q_stale : Cal (FF w K) (PySem.Challenge.rw_signedoff_k20_a_known_book).prog w K mg base u_stale 0 (He.ga K "stale") 1 := cal_of F_stale sc_stale bstale_ rfl rfl rfl cg fun cdv A stk s H z => b_stale z 
  have c_replaced : CalN (FF w K) (PySem.Challenge.rw_signedoff_k20_a_known_book).prog w K mg base u_replaced 0 3 "replaced" := ⟨_, gl 16 "replaced" rfl, q_replaced⟩
  have q_put_together : Cal (FF w K) (PySem.Challenge.rw_signedoff_k20_a_known_book).prog w K mg base u_put_together 1 (He.ga K "put_together") 4 := cal_of F_put_together sc_put_together bput_together_ rfl rfl rfl cg fun cdv A stk s H z => b_put_together z c_replaced
  have c_put_together : CalN (FF w K) (PySem.Challenge.rw_signedoff_k20_a_known_book).prog w K mg base u_put_together 1 4 "put_together" := ⟨_, gl 18 "put_together" rfl, q_put_together⟩
  have c_stale : CalN (FF w K) (PySem.Challenge.rw_signedoff_k20_a_known_book).prog w K mg base u_stale 0 1 "stale" := ⟨_, gl 17 "stale" rfl, q_stale⟩
  have q_Hand_taken : Cal (FF w K) (PySem.Challenge.rw_signedoff_k20_a_known_book).prog w K mg base u_Hand_taken 2 (He.ma K (He.ga K "Hand") "taken") 4 := cal_of F_Hand_taken sc_Hand_taken bHand_taken_ rfl rfl rfl cg fun cdv A stk s H z => b_Hand_taken z c_put_together c_stale n_len
  have c_index_of : CalN (FF w K) (PySem.Challenge.rw_signedoff_k20_a_known_book).prog w K mg base u_index_of 0 2 "index_of" := ⟨_, gl 15 "index_of" rfl, q_index_of⟩
  have t_Hand_taken : MethN (FF w K) (PySem.Challenge.rw_signedoff_k20_a_known_book).prog w K mg base u_Hand_taken G0 1 "taken" 2 4 := ⟨⟨He.ga K "Hand", rfl, (He.cls_ok (x := "Hand") (d.fact 71 rfl)).pg, _, He.meth_ok (x := "Hand") (m := "taken") (d.fact 86 rfl), q_Hand_taken⟩, _, rfl, rfl⟩
  have q_Hand_take : Cal (FF w K) (PySem.Challenge.rw_signedoff_k20_a_known_book).prog w K mg base u_Hand_take 3 (He.ma K (He.ga K "Hand") "take") 2 := cal_of F_Hand_take sc_Hand_take bHand_take_ rfl rfl rfl cg fun cdv A stk s H z => b_Hand_take z c_index_of c_replaced k_MAIN k_SPARE n_list n_tuple n_zip t_Hand_taken
  have q_Hand_put_note : Cal (FF w K) (PySem.Challenge.rw_signedoff_k20_a_known_book).prog w K mg base u_Hand_put_note 1 (He.ma K (He.ga K "Hand") "put_note") 4 := cal_of F_Hand_put_note sc_Hand_put_note bHand_put_note_ rfl rfl rfl cg fun cdv A stk s H z => b_Hand_put_note z c_index_of c_replaced
  have t_Hand_copy_main : MethN (FF w K) (PySem.Challenge.rw_signedoff_k20_a_known_book).prog w K mg base u_Hand_copy_main G0 1 "copy_main" 0 1 := ⟨⟨He.ga K "Hand", rfl, (He.cls_ok (x := "Hand") (d.fact 71 rfl)).pg, _, He.meth_ok (x := "Hand") (m := "copy_main") (d.fact 85 rfl), q_Hand_copy_main⟩, _, rfl, rfl⟩
  have t_Hand_put_note : MethN (FF w K) (PySem.Challenge.rw_signedoff_k20_a_known_book).prog w K mg base u_Hand_put_note G0 1 "put_note" 1 4 := ⟨⟨He.ga K "Hand", rfl, (He.cls_ok (x := "Hand") (d.fact 71 rfl)).pg, _, He.meth_ok (x := "Hand") (m := "put_note") (d.fact 88 rfl), q_Hand_put_note⟩, _, rfl, rfl⟩
  have t_Hand_take : MethN (FF w K) (PySem.Challenge.rw_signedoff_k20_a_known_book).prog w K mg base u_Hand_take G0 1 "take" 3 2 := ⟨⟨He.ga K "Hand", rfl, (He.cls_ok (x := "Hand") (d.fact 71 rfl)).pg, _, He.meth_ok (x := "Hand") (m := "take") (d.fact 87 rfl), q_Hand_take⟩, _, rfl, rfl⟩
  have q_Hand_do : Cal (FF w K) (PySem.Challenge.rw_signedoff_k20_a_known_book).prog w K mg base u_Hand_do 4 (He.ma K (He.ga K "Hand") "do") 2 := cal_of F_Hand_do sc_Hand_do bHand_do_ rfl rfl rfl cg fun cdv A stk s H z => b_Hand_do z c_index_of c_replaced c_stale k_COPY k_NOTHING k_SIGN k_TAKE k_UNSIGN k_WRITE n_tuple t_Hand_copy_main t_Hand_put_note t_Hand_take
  have q_Hand_standing : Cal (FF w K) (PySem.Challenge.rw_signedoff_k20_a_known_book).prog w K mg base u_Hand_standing 0 (He.ma K (He.ga K "Hand") "standing") 1 := cal_of F_Hand_standing sc_Hand_standing bHand_standing_ rfl rfl rfl cg fun cdv A stk s H z => b_Hand_standing z k_MAIN k_SPARE
  have q_Hand_note : Cal (FF w K) (PySem.Challenge.rw_signedoff_k20_a_known_book).prog w K mg base u_Hand_note 1 (He.ma K (He.ga K "Hand") "note") 3 := cal_of F_Hand_note sc_Hand_note bHand_note_ rfl rfl rfl cg fun cdv A stk s H z => b_Hand_note z c_index_of
  have t_Hand_note : MethN (FF w K) (PySem.Challenge.rw_signedoff_k20_a_known_book).prog w K mg base u_Hand_note G0 1 "note" 1 3 := ⟨⟨He.ga K "Hand", rfl, (He.cls_ok (x := "Hand") (d.fact 71 rfl)).pg, _, He.meth_ok (x := "Hand") (m := "note") (d.fact 91 rfl), q_Hand_note⟩, _, rfl, rfl⟩
  have q_Hand_can_be : Cal (FF w K) (PySem.Challenge.rw_signedoff_k20_a_known_book).prog w K mg base u_Hand_can_be 2 (He.ma K (He.ga K "Hand") "can_be") 2 := cal_of F_Hand_can_be sc_Hand_can_be bHand_can_be_ rfl rfl rfl cg fun cdv A stk s H z => b_Hand_can_be z c_index_of k_COPY k_NOTHING k_SIGN k_SPARE k_TAKE k_UNSIGN k_WRITE t_Hand_note
  have m_Hand : MakeN (FF w K) (PySem.Challenge.rw_signedoff_k20_a_known_book).prog w K mg base u_Hand___init__ G0 1 0 2 "Hand" := ⟨He.ga K "Hand", _, gl 36 "Hand" rfl, rfl, He.mkr_ok (x := "Hand") (d.fact 82 rfl), q_Hand___init__, _, rfl, rfl⟩
  have t_Hand_can_be : MethN (FF w K) (PySem.Challenge.rw_signedoff_k20_a_known_book).prog w K mg base u_Hand_can_be G0 1 "can_be" 2 2 := ⟨⟨He.ga K "Hand", rfl, (He.cls_ok (x := "Hand") (d.fact 71 rfl)).pg, _, He.meth_ok (x := "Hand") (m := "can_be") (d.fact 92 rfl), q_Hand_can_be⟩, _, rfl, rfl⟩
  have t_Hand_do : MethN (FF w K) (PySem.Challenge.rw_signedoff_k20_a_known_book).prog w K mg base u_Hand_do G0 1 "do" 4 2 := ⟨⟨He.ga K "Hand", rfl, (He.cls_ok (x := "Hand") (d.fact 71 rfl)).pg, _, He.meth_ok (x := "Hand") (m := "do") (d.fact 89 rfl), q_Hand_do⟩, _, rfl, rfl⟩
  have t_Hand_standing : MethN (FF w K) (PySem.Challenge.rw_signedoff_k20_a_known_book).prog w K mg base u_Hand_standing G0 1 "standing" 0 1 := ⟨⟨He.ga K "Hand", rfl, (He.cls_ok (x := "Hand") (d.fact 71 rfl)).pg, _, He.meth_ok (x := "Hand") (m := "standing") (d.fact 90 rfl), q_Hand_standing⟩, _, rfl, rfl⟩
  have q_led_to : Cal (FF w K) (PySem.Challenge.rw_signedoff_k20_a_known_book).prog w K mg base u_led_to 5 (He.ga K "led_to") 3 := cal_of F_led_to sc_led_to bled_to_ rfl rfl rfl cg fun cdv A stk s H z => b_led_to z m_Hand t_Hand_can_be t_Hand_do t_Hand_standing
  have c_first_standing : CalN (FF w K) (PySem.Challenge.rw_signedoff_k20_a_known_book).prog w K mg base u_first_standing 0 1 "first_standing" := ⟨_, gl 1 "first_standing" rfl, q_first_standing⟩
  have c_is_deed : CalN (FF w K) (PySem.Challenge.rw_signedoff_k20_a_known_book).prog w K mg base u_is_deed 1 2 "is_deed" := ⟨_, gl 14 "is_deed" rfl, q_is_deed⟩
  have c_led_to : CalN (FF w K) (PySem.Challenge.rw_signedoff_k20_a_known_book).prog w K mg base u_led_to 5 3 "led_to" := ⟨_, gl 19 "led_to" rfl, q_led_to⟩
  have m_Record : MakeN (FF w K) (PySem.Challenge.rw_signedoff_k20_a_known_book).prog w K mg base u_Record___init__ G0 2 0 2 "Record" := ⟨He.ga K "Record", _, gl 37 "Record" rfl, rfl, He.mkr_ok (x := "Record") (d.fact 83 rfl), q_Record___init__, _, rfl, rfl⟩
  have t_Record_take_in : MethN (FF w K) (PySem.Challenge.rw_signedoff_k20_a_known_book).prog w K mg base u_Record_take_in G0 2 "take_in" 5 3 := ⟨⟨He.ga K "Record", rfl, (He.cls_ok (x := "Record") (d.fact 72 rfl)).pg, _, He.meth_ok (x := "Record") (m := "take_in") (d.fact 84 rfl), q_Record_take_in⟩, _, rfl, rfl⟩
  have q_replay : Cal (FF w K) (PySem.Challenge.rw_signedoff_k20_a_known_book).prog w K mg base u_replay 6 (He.ga K "replay") 2 := cal_of F_replay sc_replay breplay_ rfl rfl rfl cg fun cdv A stk s H z => b_replay z c_first_standing c_is_deed c_led_to m_Record n_enumerate t_Record_take_in
  have q_are_of : Cal (FF w K) (PySem.Challenge.rw_signedoff_k20_a_known_book).prog w K mg base u_are_of 0 (He.ga K "are_of") 2 := cal_of F_are_of sc_are_of bare_of_ rfl rfl rfl cg fun cdv A stk s H z => b_are_of z n_all n_isinstance n_list n_set n_sorted n_str n_tuple
  have q_is_binding : Cal (FF w K) (PySem.Challenge.rw_signedoff_k20_a_known_book).prog w K mg base u_is_binding 0 (He.ga K "is_binding") 1 := cal_of F_is_binding sc_is_binding bis_binding_ rfl rfl rfl cg fun cdv A stk s H z => b_is_binding z k_BINDINGS n_isinstance n_str
  have c_are_of : CalN (FF w K) (PySem.Challenge.rw_signedoff_k20_a_known_book).prog w K mg base u_are_of 0 2 "are_of" := ⟨_, gl 21 "are_of" rfl, q_are_of⟩
  have c_is_binding : CalN (FF w K) (PySem.Challenge.rw_signedoff_k20_a_known_book).prog w K mg base u_is_binding 0 1 "is_binding" := ⟨_, gl 22 "is_binding" rfl, q_is_binding⟩
  have q_is_person : Cal (FF w K) (PySem.Challenge.rw_signedoff_k20_a_known_book).prog w K mg base u_is_person 1 (He.ga K "is_person") 2 := cal_of F_is_person sc_is_person bis_person_ rfl rfl rfl cg fun cdv A stk s H z => b_is_person z c_are_of c_is_binding n_isinstance n_len n_list n_tuple
  have q_is_name : Cal (FF w K) (PySem.Challenge.rw_signedoff_k20_a_known_book).prog w K mg base u_is_name 0 (He.ga K "is_name") 1 := cal_of F_is_name sc_is_name bis_name_ rfl rfl rfl cg fun cdv A stk s H z => b_is_name z k_LETTERS k_MOST_NAME n_all n_isinstance n_len n_str
  have c_is_name : CalN (FF w K) (PySem.Challenge.rw_signedoff_k20_a_known_book).prog w K mg base u_is_name 0 1 "is_name" := ⟨_, gl 24 "is_name" rfl, q_is_name⟩
  have c_is_person : CalN (FF w K) (PySem.Challenge.rw_signedoff_k20_a_known_book).prog w K mg base u_is_person 1 2 "is_person" := ⟨_, gl 23 "is_person" rfl, q_is_person⟩
  have q_look_at_people : Cal (FF w K) (PySem.Challenge.rw_signedoff_k20_a_known_book).prog w K mg base u_look_at_people 2 (He.ga K "look_at_people") 2 := cal_of F_look_at_people sc_look_at_people blook_at_people_ rfl rfl rfl cg fun cdv A stk s H z => b_look_at_people z c_is_name c_is_person k_MOST_NAMES n_all n_dict n_isinstance n_len n_list n_sorted
  have q_are_parts : Cal (FF w K) (PySem.Challenge.rw_signedoff_k20_a_known_book).prog w K mg base u_are_parts 1 (He.ga K "are_parts") 1 := cal_of F_are_parts sc_are_parts bare_parts_ rfl rfl rfl cg fun cdv A stk s H z => b_are_parts z c_is_integer c_is_name k_MOST_NAMES k_MOST_NEEDED n_all n_dict n_isinstance n_len
  have c_are_parts : CalN (FF w K) (PySem.Challenge.rw_signedoff_k20_a_known_book).prog w K mg base u_are_parts 1 1 "are_parts" := ⟨_, gl 26 "are_parts" rfl, q_are_parts⟩
  have c_look_at_people : CalN (FF w K) (PySem.Challenge.rw_signedoff_k20_a_known_book).prog w K mg base u_look_at_people 2 2 "look_at_people" := ⟨_, gl 25 "look_at_people" rfl, q_look_at_people⟩
  have q_Book___init__ : Cal (FF w K) (PySem.Challenge.rw_signedoff_k20_a_known_book).prog w K mg base u_Book___init__ 3 (He.ma K (He.ga K "Book") "__init__") 7 := cal_of F_Book___init__ sc_Book___init__ bBook___init___ rfl rfl rfl cg fun cdv A stk s H z => b_Book___init__ z c_are_of c_are_parts c_is_integer c_look_at_people k_MANNERS k_WORDS n_isinstance n_list n_sorted n_str
  have m_Book : MakeN (FF w K) (PySem.Challenge.rw_signedoff_k20_a_known_book).prog w K mg base u_Book___init__ G0 0 3 6 "Book" := ⟨He.ga K "Book", _, gl 35 "Book" rfl, rfl, He.mkr_ok (x := "Book") (d.fact 81 rfl), q_Book___init__, _, rfl, rfl⟩
  have q__law_book_of : Cal (FF w K) (PySem.Challenge.rw_signedoff_k20_a_known_book).prog w K mg base u__law_book_of 5 (He.ga K "_law_book_of") 4 := cal_of F__law_book_of sc__law_book_of b_law_book_of_ rfl rfl rfl cg fun cdv A stk s H z => b__law_book_of z m_Book
  have c__law_book_of : CalN (FF w K) (PySem.Challenge.rw_signedoff_k20_a_known_book).prog w K mg base u__law_book_of 5 4 "_law_book_of" := ⟨_, gl 27 "_law_book_of" rfl, q__law_book_of⟩
  have c_replay : CalN (FF w K) (PySem.Challenge.rw_signedoff_k20_a_known_book).prog w K mg base u_replay 6 2 "replay" := ⟨_, gl 20 "replay" rfl, q_replay⟩
  have hP7 : ∀ (x : Str) c i n, G1.cls c = some i → lookS x i.props = some n → PropN (FF w K) (PySem.Challenge.rw_signedoff_k20_a_known_book).prog w K mg base C1 c x n ∧ n + 2 ≤ 7 := by
    intro x c i n h1 h2
    match c, h1 with
    | 0, h1 => cases h1; cases h2
    | 1, h1 => cases h1; cases h2
    | 2, h1 =>
      cases h1
      unfold lookS at h2
      split at h2
      · rename_i hx
        cases h2
        have := of_decide_eq_true hx
        subst this
        exact ⟨⟨He.ga K "Record", rfl, (He.cls_ok (x := "Record") (d.fact 72 rfl)).pg, e13, _, _, po_Record_notes, q_Record_notes⟩, by decide⟩
      · unfold lookS at h2
        split at h2
        · rename_i hx
          cases h2
          have := of_decide_eq_true hx
          subst this
          exact ⟨⟨He.ga K "Record", rfl, (He.cls_ok (x := "Record") (d.fact 72 rfl)).pg, e13, _, _, po_Record_sent, q_Record_sent⟩, by decide⟩
        · unfold lookS at h2
          split at h2
          · rename_i hx
            cases h2
            have := of_decide_eq_true hx
            subst this
            exact ⟨⟨He.ga K "Record", rfl, (He.cls_ok (x := "Record") (d.fact 72 rfl)).pg, e13, _, _, po_Record_found, q_Record_found⟩, by decide⟩
          · cases h2
    | _ + 3, h1 => cases h1
  have hP8 : ∀ (x : Str) c i n, G1.cls c = some i → lookS x i.props = some n → PropN (FF w K) (PySem.Challenge.rw_signedoff_k20_a_known_book).prog w K mg base C1 c x n ∧ n + 2 ≤ 8 := by
    intro x c i n h1 h2
    match c, h1 with
    | 0, h1 => cases h1; cases h2
    | 1, h1 => cases h1; cases h2
    | 2, h1 =>
      cases h1
      unfold lookS at h2
      split at h2
      · rename_i hx
        cases h2
        have := of_decide_eq_true hx
        subst this
        exact ⟨⟨He.ga K "Record", rfl, (He.cls_ok (x := "Record") (d.fact 72 rfl)).pg, e13, _, _, po_Record_notes, q_Record_notes⟩, by decide⟩
      · unfold lookS at h2
        split at h2
        · rename_i hx
          cases h2
          have := of_decide_eq_true hx
          subst this
          exact ⟨⟨He.ga K "Record", rfl, (He.cls_ok (x := "Record") (d.fact 72 rfl)).pg, e13, _, _, po_Record_sent, q_Record_sent⟩, by decide⟩
        · unfold lookS at h2
          split at h2
          · rename_i hx
            cases h2
            have := of_decide_eq_true hx
            subst this
            exact ⟨⟨He.ga K "Record", rfl, (He.cls_ok (x := "Record") (d.fact 72 rfl)).pg, e13, _, _, po_Record_found, q_Record_found⟩, by decide⟩
          · cases h2
    | _ + 3, h1 => cases h1
  have q__law_pieces : Cal (FF w K) (PySem.Challenge.rw_signedoff_k20_a_known_book).prog w K mg base u__law_pieces 7 (He.ga K "_law_pieces") 4 := cal_of F__law_pieces sc__law_pieces b_law_pieces_ rfl rfl rfl cg1 fun cdv A stk s H z => b__law_pieces z c__law_book_of c_replay hP7
  have q__law_next : Cal (FF w K) (PySem.Challenge.rw_signedoff_k20_a_known_book).prog w K mg base u__law_next 0 (He.ga K "_law_next") 2 := cal_of F__law_next sc__law_next b_law_next_ rfl rfl rfl cg fun cdv A stk s H z => b__law_next z n_int n_len n_max
  have q_look_at_thing : Cal (FF w K) (PySem.Challenge.rw_signedoff_k20_a_known_book).prog w K mg base u_look_at_thing 1 (He.ga K "look_at_thing") 2 := cal_of F_look_at_thing sc_look_at_thing blook_at_thing_ rfl rfl rfl cg fun cdv A stk s H z => b_look_at_thing z c_is_thing k_SPARE
  have c_look_at_thing : CalN (FF w K) (PySem.Challenge.rw_signedoff_k20_a_known_book).prog w K mg base u_look_at_thing 1 2 "look_at_thing" := ⟨_, gl 30 "look_at_thing" rfl, q_look_at_thing⟩
  have q_counting : Cal (FF w K) (PySem.Challenge.rw_signedoff_k20_a_known_book).prog w K mg base u_counting 2 (He.ga K "counting") 2 := cal_of F_counting sc_counting bcounting_ rfl rfl rfl cg fun cdv A stk s H z => b_counting z c_counting_at c_look_at_thing k_MAIN
  have q_asks : Cal (FF w K) (PySem.Challenge.rw_signedoff_k20_a_known_book).prog w K mg base u_asks 5 (He.ga K "asks") 2 := cal_of F_asks sc_asks basks_ rfl rfl rfl cg fun cdv A stk s H z => b_asks z F_subsets bsubsets_ (gl 34 "subsets" rfl) rfl rfl cg c_is_sent c_look_at_thing k_SIGN m_Hand n_len n_list n_range t_Hand_do t_Hand_standing
  have c__law_mix : CalN (FF w K) (PySem.Challenge.rw_signedoff_k20_a_known_book).prog w K mg base u__law_mix 0 2 "_law_mix" := ⟨_, gl 0 "_law_mix" rfl, q__law_mix⟩
  have c__law_next : CalN (FF w K) (PySem.Challenge.rw_signedoff_k20_a_known_book).prog w K mg base u__law_next 0 2 "_law_next" := ⟨_, gl 29 "_law_next" rfl, q__law_next⟩
  have c__law_pieces : CalN (FF w K) (PySem.Challenge.rw_signedoff_k20_a_known_book).prog w K mg base u__law_pieces 7 4 "_law_pieces" := ⟨_, gl 28 "_law_pieces" rfl, q__law_pieces⟩
  have c_asks : CalN (FF w K) (PySem.Challenge.rw_signedoff_k20_a_known_book).prog w K mg base u_asks 5 2 "asks" := ⟨_, gl 32 "asks" rfl, q_asks⟩
  have c_counting : CalN (FF w K) (PySem.Challenge.rw_signedoff_k20_a_known_book).prog w K mg base u_counting 2 2 "counting" := ⟨_, gl 31 "counting" rfl, q_counting⟩
  obtain ⟨oc, od, dV, kV, doc, pm, an, cdv, ct, osl, ex, lk, hcd, hD, hKw⟩ := F_law.ex
  subst ex
  exact FnOk.imp (fnok_at lk hcd sc_law rfl rfl cg1 fun A stk s H z => b_law z c__law_book_of c__law_mix c__law_next c__law_pieces c_asks c_counting c_replay hP8) fun vs H Q E hs => law_sp rfl eL hs
end Ms
open PySem PySem.W PySem.Calls PyProof.Rows
theorem PySem.Challenge.cw_signedoff_k20_a_known_book_holds : PySem.Challenge.rw_signedoff_k20_a_known_book.Holds := by
  w_on; o_law
  refine HandSHeadRun.head_any (r := Ms.R) (q := view Ms.R.prog [70]) (H := Ms.hk) (ob := Ms.ob) (M := 20000) (loose := Ms.loose) (d := HandSHeadRun.topDef Ms.R.prog 70) (kwd := []) Ms.ob_eq
    (by kernel_rfl) (fun s => by kernel_rfl) (byRow2 "special-get-raises" Ms.run_false Ms.run_true) (by kernel_rfl) (by kernel_rfl) (by kernel_rfl) (by rfl) (by first | assumption | decide +kernel) (by decide +kernel) ⟨rfl, rfl, rfl, rfl, rfl, by decide +kernel⟩ ?hw ?hc
  case hw => w_witness2
  case hc =>
    refine LamX.walk_ofTsE (l := PySem.Challenge.rw_signedoff_k20_a_known_book) (n := 63) (k := 9) (x := "_law_script") (CX := fun w => L2.CX (PySem.Challenge.rw_signedoff_k20_a_known_book).prog w) rfl (by decide) (by kernel_rfl) ⟨by decide +kernel, by decide +kernel, by decide +kernel⟩ ?F ?X
    case F =>
      intro w mg fa h Y G hmg0
      obtain ⟨K, KX, c⟩ := Y
      have hmg : mg ("law" : PySem.Str) = some (.ref fa) := by
        have e : (HandSHeadRun.topDef Ms.R.prog 70).name = ("law" : PySem.Str) := by kernel_rfl
        rw [← e]
        exact hmg0
      exact ⟨K, KX, Ms.facts KX G hmg c⟩
    case X =>
      intro w H s e s' hx
      obtain ⟨a, B, H', cls, d, _, _, _, _, _, _, _, hW⟩ := hx
      exact hW
