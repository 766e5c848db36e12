import PyProof.Rows.All
import Wide.All
import OpenK.AllK
import Wide.FinOn
import KE.KStateDown
import KE.KNestM
import Lean
import HandS.ForMost
import HandS.More
import HandS.WordsExc
import HandS.Defaults
import HandS.Head0
import HandS.Head1
import HandS.Head2
import HandS.HeadEnd
import HandS.HeadHook1
import HandS.HeadHook2
import HandS.HeadHook4
import HandS.HeadWalk
import HandS.ExcInit
import HandS.ExcIs
import HandS.ExcField
import HandS.Deep
import HandS.Conv
import HandS.IsInst
import HandS.TupAny
import HandS.TupSets
import HandS.Strs
import HandS.Sort
import HandS.Lambda
import KE.DataMinMax
import KE.SortData
import HandS.Exc
import HandS.ExcOwn
import HandS.TryOnly
import HandS.Nested
import KE.KExcIs
import PySem.Challenge.RW_learnports_k01_webs_refused
set_option Elab.async false
set_option linter.all false
set_option maxRecDepth 100000
set_option maxHeartbeats 4000000
/-! What the top leaves, told by names: defs, classes, tables of code objects, and one Bool more. -/
namespace Hy
open PySem PySem.Spec PyProof.Rows L2
def asY (g : Addr → Option Obj) (n : Nat) : List Addr := cStatics :: He.asD g n
abbrev KY (g : Addr → Option Obj) (n : Nat) : PySem.W.Frag := He.frT g (asY g n)
structure SaysY (fa : List He.Fa) (fn : List He.DefD) (tf : List He.Defn) (ex : PySem.W.Frag → Bool) (h : Heap) (K : PySem.W.Frag) : Prop where
  facts : He.SaysD fa fn K
  bool : ex K = true
  code : ∀ p, p ∈ tf → PySem.W.codeHdIn K (He.cT K p).1 (He.cT K p).2 = true
  none : ∀ p, p ∈ tf → K.lookup (He.cT K p).2 = none
  void : ∀ p, p ∈ tf → h.get? (He.cT K p).2 = some { cls := .none, data := .fields #[] }
abbrev AlY : Type := He.AlD × Bool
def obsY (n : Nat) (fa : List He.Fa) (fn : List He.DefD) (tf : List He.Defn) (ex : PySem.W.Frag → Bool) (g : Addr → Option Obj) : AlY := (He.obsD fa fn (KY g n), ex (KY g n) && He.tabsB g tf (KY g n))
theorem says_of {n : Nat} {fa : List He.Fa} {fn : List He.DefD} {tf : List He.Defn} {ex : PySem.W.Frag → Bool} {h : Heap} (e : obsY n fa fn tf ex h.get? = (He.valD fn, true)) : SaysY fa fn tf ex h (KY h.get? n) := by
  have e1 : He.obsD fa fn (KY h.get? n) = He.valD fn := congrArg Prod.fst e
  have e2 : (ex (KY h.get? n) && He.tabsB h.get? tf (KY h.get? n)) = true := congrArg Prod.snd e
  obtain ⟨b1, b2⟩ := Bool.and_eq_true_iff.mp e2
  have key : ∀ p, p ∈ tf → PySem.W.codeHdIn (KY h.get? n) (He.cT (KY h.get? n) p).1 (He.cT (KY h.get? n) p).2 = true ∧ ∃ o, h.get? (He.cT (KY h.get? n) p).2 = some o ∧ He.emptyTab o = true := by
    intro p hp
    obtain ⟨b3, b4⟩ := Bool.and_eq_true_iff.mp (List.all_eq_true.mp b2 p hp)
    refine ⟨b3, ?_⟩
    cases q : h.get? (He.cT (KY h.get? n) p).2 with
    | none =>
      rw [q] at b4
      cases b4
    | some o =>
      rw [q] at b4
      exact ⟨o, rfl, b4⟩
  refine ⟨e1, b1, fun p hp => (key p hp).1, fun p hp => ?_, fun p hp => ?_⟩
  · obtain ⟨_, o, h1, h2⟩ := key p hp
    exact He.frT_none h1 h2
  · obtain ⟨_, o, h1, h2⟩ := key p hp
    rw [h1, He.emptyTab_eq h2]
def hookY (n : Nat) (fa : List He.Fa) (fn : List He.DefD) (tf : List He.Defn) (ex : PySem.W.Frag → Bool) : PySem.W.Hook where
  α := AlY
  obs := fun s => obsY n fa fn tf ex s.heap.get?
  val := fun _ => (He.valD fn, true)
  says := fun _ h => ∃ K : PySem.W.Frag, K.In h ∧ SaysY fa fn tf ex h K
  of := fun _ _ e => ⟨_, He.frT_in, says_of e⟩
  keeps := fun _ _ _ z k => by
    obtain ⟨K, hK, c⟩ := z
    exact ⟨K, PySem.W.Frag.In.keeps hK k, c.facts, c.bool, c.code, c.none, fun p hp => k _ _ (c.void p hp)⟩
theorem obsY_eq {n : Nat} {fa : List He.Fa} {fn : List He.DefD} {tf : List He.Defn} {ex : PySem.W.Frag → Bool} {g : Addr → Option Obj} {s : Shared} (h : ∀ a, g a = s.heap.get? a) : obsY n fa fn tf ex g = (hookY n fa fn tf ex).obs s := by
  cases (funext h : g = s.heap.get?)
  rfl
/-! ### error classes -/
/-- an own error class over ValueError, whatever its __init__ -/
def oexB (K : PySem.W.Frag) (C : Addr) : Bool := match K.lookup C with
  | some ⟨.type t, _, .cls cd, sl⟩ => decide (t = "type") && (cd.hasDict && (!cd.hasDel && (match cd.mro, sl.toList with
    | .ref C' :: bm, [_, _, _, _, some (.builtin n), _] => decide (C' = C) && (decide (n = "ValueError.__new__") && PySem.HandSPX.refsVE bm)
    | _, _ => false)))
  | _ => false
theorem oexB_ok {K : PySem.W.Frag} {C : Addr} (h : oexB K C = true) : ∃ nm q N bs bm sn sub ab col dd k0 k1 k2 k3 k5, K.lookup C = some (excClassObj nm q C N bs bm true sn sub ab col dd k0 k1 k2 k3 k5 "ValueError.__new__") ∧ PySem.HandSPX.refsVE bm = true := by
  unfold oexB at h
  cases q : K.lookup C with
  | none =>
    rw [q] at h
    cases h
  | some o =>
    rw [q] at h
    obtain ⟨oc, od, dt, sl⟩ := o
    cases oc with
    | type t =>
      cases dt with
      | cls cd =>
        obtain ⟨h1, hh1⟩ := Bool.and_eq_true_iff.mp h
        clear h
        obtain ⟨h2, hh2⟩ := Bool.and_eq_true_iff.mp hh1
        clear hh1
        obtain ⟨h3, h⟩ := Bool.and_eq_true_iff.mp hh2
        clear hh2
        obtain ⟨nm, bs, mro, ns, qn, hd, sn, sub, ab, col, del⟩ := cd
        obtain ⟨l⟩ := sl
        have e1 : t = "type" := of_decide_eq_true h1
        have e2 : hd = true := h2
        have e3 : del = false := by
          cases del with
          | false => rfl
          | true => cases h3
        subst e1 e2 e3
        rcases mro with _ | ⟨m0, bm⟩
        · cases h
        · cases m0 with
          | ref C' =>
            rcases l with _ | ⟨k0, _ | ⟨k1, _ | ⟨k2, _ | ⟨k3, _ | ⟨k4, _ | ⟨k5, _ | ⟨k6, l⟩⟩⟩⟩⟩⟩⟩
            · cases h
            · cases h
            · cases h
            · cases h
            · cases h
            · cases k4 with
              | none => cases h
              | some v => cases v <;> cases h
            · cases k4 with
              | none => cases h
              | some v =>
                cases v with
                | builtin n =>
                  obtain ⟨h4, h⟩ := Bool.and_eq_true_iff.mp h
                  obtain ⟨h5, h6⟩ := Bool.and_eq_true_iff.mp h
                  have e4 : C' = C := of_decide_eq_true h4
                  have e5 : n = "ValueError.__new__" := of_decide_eq_true h5
                  subst e4 e5
                  exact ⟨nm, qn, ns, bs, bm, sn, sub, ab, col, od, k0, k1, k2, k3, k5, rfl, h6⟩
                | _ => cases h
            · cases k4 with
              | none => cases h
              | some v => cases v <;> cases h
          | _ => cases h
      | _ => cases h
    | _ => cases dt <;> cases h
def oexAll (K : PySem.W.Frag) (C : Addr) : Bool := oexB K C && (decide (PySem.W.findIn K (.ref C) "__setattr__" = some (some (.builtin "object.__setattr__"))) && (decide (PySem.W.subIn K (.ref C) (.type "BaseException") = some true) && (decide (PySem.W.typeIn K (.ref C) = some (.type "type")) && PySem.W.keepIn K (.ref C))))
theorem oexAll_ok {K : PySem.W.Frag} {C : Addr} (h : oexAll K C = true) : OexC K C := by
  obtain ⟨h1, h⟩ := Bool.and_eq_true_iff.mp h
  obtain ⟨h2, h⟩ := Bool.and_eq_true_iff.mp h
  obtain ⟨h3, h⟩ := Bool.and_eq_true_iff.mp h
  obtain ⟨h4, h5⟩ := Bool.and_eq_true_iff.mp h
  exact ⟨oexB_ok h1, of_decide_eq_true h2, of_decide_eq_true h3, of_decide_eq_true h4, h5⟩
/-- isinstance asks its instances rightly -/
def excB (K : PySem.W.Frag) (C : Addr) : Bool := decide (PySem.W.findIn K (.ref C) "__getattribute__" = some (some (.builtin "BaseException.__getattribute__"))) && (decide (PySem.W.findIn K (.ref C) "__getattr__" = some none) && (decide (PySem.W.subIn K (.ref C) (.type "BaseException") = some true) && (PySem.W.hasDictIn K C &&
  (decide (PySem.W.findIn K (.ref C) "__class__" = some (some (.builtin "object.__class__"))) && (decide (PySem.W.specialIn K (.builtin "object.__class__") "__get__" = some (some (.builtin "getset_descriptor.__get__"))) && (decide (PySem.W.takesIn K (.builtin "object.__class__") = some true) && decide (PySem.W.mroIn K C (.type "object") = some true)))))))
theorem excB_ok {K : PySem.W.Frag} {C : Addr} (h : excB K C = true) : ExcC K C := by
  obtain ⟨h1, h⟩ := Bool.and_eq_true_iff.mp h
  obtain ⟨h2, h⟩ := Bool.and_eq_true_iff.mp h
  obtain ⟨h3, h⟩ := Bool.and_eq_true_iff.mp h
  obtain ⟨h4, h⟩ := Bool.and_eq_true_iff.mp h
  obtain ⟨h5, h⟩ := Bool.and_eq_true_iff.mp h
  obtain ⟨h6, h⟩ := Bool.and_eq_true_iff.mp h
  obtain ⟨h7, h8⟩ := Bool.and_eq_true_iff.mp h
  exact ⟨of_decide_eq_true h1, of_decide_eq_true h2, of_decide_eq_true h3, h4, of_decide_eq_true h5, of_decide_eq_true h6, of_decide_eq_true h7, of_decide_eq_true h8⟩
/-- C.__init__ is ValueError's -/
def iniB (K : PySem.W.Frag) (C : Addr) : Bool := PySem.W.readsIn K C (.type "type") && (decide (PySem.W.specialIn K (.ref C) "__getattribute__" = some (some (.builtin "type.__getattribute__"))) && (match PySem.W.findCls K (.ref C) (.type "type") "__init__" with
  | some (.val (.builtin s)) => decide (s = "ValueError.__init__")
  | _ => false))
theorem iniB_ok {K : PySem.W.Frag} {C : Addr} (h : iniB K C = true) : PySem.W.readsIn K C (.type "type") = true ∧ PySem.W.specialIn K (.ref C) "__getattribute__" = some (some (.builtin "type.__getattribute__")) ∧ PySem.W.findCls K (.ref C) (.type "type") "__init__" = some (.val (.builtin "ValueError.__init__")) := by
  obtain ⟨h1, h⟩ := Bool.and_eq_true_iff.mp h
  obtain ⟨h2, h3⟩ := Bool.and_eq_true_iff.mp h
  refine ⟨h1, of_decide_eq_true h2, ?_⟩
  split at h3
  · rename_i s e
    rw [e, of_decide_eq_true h3]
  · cases h3
end Hy

namespace Hd
open PySem PySem.Spec PyProof.Rows L2
def top (i : Nat) : Stmt := PySem.Challenge.pw_learnports_k01_webs_refused.main.body.getD i (.Pass ⟨0, 0, 0, 0⟩)
def clsAt (s : Stmt) (i : Nat) : Stmt := match s with
  | .ClassDef _ _ _ b _ _ _ _ _ _ _ => b.getD i (.Pass ⟨0, 0, 0, 0⟩)
  | _ => .Pass ⟨0, 0, 0, 0⟩
abbrev s__wall : Stmt := top 0
def ds__wall : He.DefD := ⟨("_wall", none), "_wall", "_wall", defArgs s__wall, defBody s__wall, defScope s__wall, [], []⟩
abbrev s_is_door : Stmt := top 13
def ds_is_door : He.DefD := ⟨("is_door", none), "is_door", "is_door", defArgs s_is_door, defBody s_is_door, defScope s_is_door, [], []⟩
abbrev s_need_web : Stmt := top 14
def ds_need_web : He.DefD := ⟨("need_web", none), "need_web", "need_web", defArgs s_need_web, defBody s_need_web, defScope s_need_web, [], []⟩
abbrev s_next_ones : Stmt := top 15
def ds_next_ones : He.DefD := ⟨("next_ones", none), "next_ones", "next_ones", defArgs s_next_ones, defBody s_next_ones, defScope s_next_ones, [], []⟩
abbrev s_way_by : Stmt := top 16
def ds_way_by : He.DefD := ⟨("way_by", none), "way_by", "way_by", defArgs s_way_by, defBody s_way_by, defScope s_way_by, [], []⟩
abbrev s_taken_and_ring : Stmt := top 17
def ds_taken_and_ring : He.DefD := ⟨("taken_and_ring", none), "taken_and_ring", "taken_and_ring", defArgs s_taken_and_ring, defBody s_taken_and_ring, defScope s_taken_and_ring, [], []⟩
abbrev s_ring : Stmt := top 18
def ds_ring : He.DefD := ⟨("ring", none), "ring", "ring", defArgs s_ring, defBody s_ring, defScope s_ring, [], []⟩
abbrev s_enough : Stmt := top 19
def ds_enough : He.DefD := ⟨("enough", none), "enough", "enough", defArgs s_enough, defBody s_enough, defScope s_enough, [], []⟩
abbrev s_without : Stmt := top 20
def ds_without : He.DefD := ⟨("without", none), "without", "without", defArgs s_without, defBody s_without, defScope s_without, [], []⟩
abbrev sL_taken : Stmt := top 29
def dsL_taken : He.DefD := ⟨("_law_taken", none), "_law_taken", "_law_taken", defArgs sL_taken, defBody sL_taken, defScope sL_taken, [], []⟩
abbrev sL_free : Stmt := top 30
def dsL_free : He.DefD := ⟨("_law_free", none), "_law_free", "_law_free", defArgs sL_free, defBody sL_free, defScope sL_free, [], []⟩
abbrev sL_link : Stmt := top 31
def dsL_link : He.DefD := ⟨("_law_link", none), "_law_link", "_law_link", defArgs sL_link, defBody sL_link, defScope sL_link, [], []⟩
abbrev sL_web : Stmt := top 32
def dsL_web : He.DefD := ⟨("_law_web", none), "_law_web", "_law_web", defArgs sL_web, defBody sL_web, defScope sL_web, [], []⟩
abbrev sL_bad : Stmt := top 33
def dsL_bad : He.DefD := ⟨("_law_bad", none), "_law_bad", "_law_bad", defArgs sL_bad, defBody sL_bad, defScope sL_bad, [], []⟩
abbrev sL_spoilt : Stmt := top 34
def dsL_spoilt : He.DefD := ⟨("_law_spoilt", none), "_law_spoilt", "_law_spoilt", defArgs sL_spoilt, defBody sL_spoilt, defScope sL_spoilt, [], []⟩
abbrev sL_word : Stmt := top 35
def dsL_word : He.DefD := ⟨("_law_word", none), "_law_word", "_law_word", defArgs sL_word, defBody sL_word, defScope sL_word, [], []⟩
abbrev sL_works : Stmt := top 36
def dsL_works : He.DefD := ⟨("_law_works", none), "_law_works", "_law_works", defArgs sL_works, defBody sL_works, defScope sL_works, [], []⟩
abbrev s_law : Stmt := top 37
def ds_law : He.DefD := ⟨("law", none), "law", "law", defArgs s_law, defBody s_law, defScope s_law, [], []⟩
abbrev s_BadWeb___init__ : Stmt := clsAt (top 3) 0
def ds_BadWeb___init__ : He.DefD := ⟨("BadWeb", some "__init__"), "__init__", "BadWeb.__init__", defArgs s_BadWeb___init__, defBody s_BadWeb___init__, defScope s_BadWeb___init__, [], []⟩
abbrev s_BadPlace___init__ : Stmt := clsAt (top 5) 0
def ds_BadPlace___init__ : He.DefD := ⟨("BadPlace", some "__init__"), "__init__", "BadPlace.__init__", defArgs s_BadPlace___init__, defBody s_BadPlace___init__, defScope s_BadPlace___init__, [], []⟩
abbrev s_Net___init__ : Stmt := clsAt (top 27) 0
def ds_Net___init__ : He.DefD := ⟨("Net", some "__init__"), "__init__", "Net.__init__", defArgs s_Net___init__, defBody s_Net___init__, defScope s_Net___init__, [], []⟩
abbrev s_Net_need_place : Stmt := clsAt (top 27) 1
def ds_Net_need_place : He.DefD := ⟨("Net", some "need_place"), "need_place", "Net.need_place", defArgs s_Net_need_place, defBody s_Net_need_place, defScope s_Net_need_place, [], []⟩
abbrev s_Net_need_time : Stmt := clsAt (top 27) 2
def ds_Net_need_time : He.DefD := ⟨("Net", some "need_time"), "need_time", "Net.need_time", defArgs s_Net_need_time, defBody s_Net_need_time, defScope s_Net_need_time, [], []⟩
abbrev s_Net_need_host : Stmt := clsAt (top 27) 3
def ds_Net_need_host : He.DefD := ⟨("Net", some "need_host"), "need_host", "Net.need_host", defArgs s_Net_need_host, defBody s_Net_need_host, defScope s_Net_need_host, [], []⟩
abbrev s_Net_need_letter : Stmt := clsAt (top 27) 4
def ds_Net_need_letter : He.DefD := ⟨("Net", some "need_letter"), "need_letter", "Net.need_letter", defArgs s_Net_need_letter, defBody s_Net_need_letter, defScope s_Net_need_letter, [], []⟩
abbrev s_Net_hosts_at : Stmt := clsAt (top 27) 5
def ds_Net_hosts_at : He.DefD := ⟨("Net", some "hosts_at"), "hosts_at", "Net.hosts_at", defArgs s_Net_hosts_at, defBody s_Net_hosts_at, defScope s_Net_hosts_at, [], []⟩
abbrev s_Net_door_of : Stmt := clsAt (top 27) 6
def ds_Net_door_of : He.DefD := ⟨("Net", some "door_of"), "door_of", "Net.door_of", defArgs s_Net_door_of, defBody s_Net_door_of, defScope s_Net_door_of, [], []⟩
abbrev s_Net_learn : Stmt := clsAt (top 27) 7
def ds_Net_learn : He.DefD := ⟨("Net", some "learn"), "learn", "Net.learn", defArgs s_Net_learn, defBody s_Net_learn, defScope s_Net_learn, [], []⟩
abbrev s_Net_doors_out : Stmt := clsAt (top 27) 8
def ds_Net_doors_out : He.DefD := ⟨("Net", some "doors_out"), "doors_out", "Net.doors_out", defArgs s_Net_doors_out, defBody s_Net_doors_out, defScope s_Net_doors_out, [], []⟩
abbrev s_Net_send : Stmt := clsAt (top 27) 9
def ds_Net_send : He.DefD := ⟨("Net", some "send"), "send", "Net.send", defArgs s_Net_send, defBody s_Net_send, defScope s_Net_send, [], []⟩
abbrev s_Net_move : Stmt := clsAt (top 27) 10
def ds_Net_move : He.DefD := ⟨("Net", some "move"), "move", "Net.move", defArgs s_Net_move, defBody s_Net_move, defScope s_Net_move, [], []⟩
abbrev s_Net_time : Stmt := clsAt (top 27) 11
def ds_Net_time : He.DefD := ⟨("Net", some "time"), "time", "Net.time", defArgs s_Net_time, defBody s_Net_time, defScope s_Net_time, [], []⟩
abbrev s_Net_places : Stmt := clsAt (top 27) 12
def ds_Net_places : He.DefD := ⟨("Net", some "places"), "places", "Net.places", defArgs s_Net_places, defBody s_Net_places, defScope s_Net_places, [], []⟩
abbrev s_Net_knows : Stmt := clsAt (top 27) 13
def ds_Net_knows : He.DefD := ⟨("Net", some "knows"), "knows", "Net.knows", defArgs s_Net_knows, defBody s_Net_knows, defScope s_Net_knows, [], []⟩
def fn0 : List He.DefD := [ds__wall, ds_is_door, ds_need_web, ds_next_ones, ds_way_by, ds_taken_and_ring, ds_ring, ds_enough, ds_without, dsL_taken, dsL_free, dsL_link, dsL_web, dsL_bad, dsL_spoilt, dsL_word, dsL_works, ds_law, ds_BadWeb___init__, ds_BadPlace___init__, ds_Net___init__, ds_Net_need_place, ds_Net_need_time, ds_Net_need_host, ds_Net_need_letter, ds_Net_hosts_at, ds_Net_door_of, ds_Net_learn, ds_Net_doors_out, ds_Net_send]
def fn1 : List He.DefD := [ds_Net_move, ds_Net_time, ds_Net_places, ds_Net_knows]
def fn : List He.DefD := fn0 ++ fn1
def fa0 : List He.Fa := [.glo "_wall", .glo "is_door", .glo "need_web", .glo "next_ones", .glo "way_by", .glo "taken_and_ring", .glo "ring", .glo "enough", .glo "without", .glo "_law_taken", .glo "_law_free", .glo "_law_link", .glo "_law_web", .glo "_law_bad", .glo "_law_spoilt", .glo "_law_word", .glo "_law_works", .glo "law", .glo "PortError", .glo "BadWeb", .glo "BadNet", .glo "BadPlace", .glo "BadTime", .glo "BadHost", .glo "HasRing", .glo "Net", .cls "Net", .mkr "Net", .meth "Net" "__init__", .meth "Net" "need_place"]
def fa1 : List He.Fa := [.meth "Net" "need_time", .meth "Net" "need_host", .meth "Net" "need_letter", .meth "Net" "hosts_at", .meth "Net" "door_of", .meth "Net" "learn", .meth "Net" "doors_out", .meth "Net" "send", .meth "Net" "move", .meth "Net" "time", .meth "Net" "places", .meth "Net" "knows", .noat "Net" "age", .noat "Net" "ends", .noat "Net" "known", .noat "Net" "now", .noat "Net" "room", .noat "Net" "spots", .noat "Net" "web", .int "MOST_BOXES" 6, .int "DOORS" 4, .int "MOST_LINKS" 10, .int "MOST_AGE" 20, .int "MOST_ROOM" 8, .int "MOST_HOSTS" 8, .int "MOST_TIME" 1000, .int "MOST_STEPS" 60, .free "ValueError", .free "int", .free "isinstance"]
def fa2 : List He.Fa := [.free "len", .free "list", .free "max", .free "min", .free "range", .free "sorted", .free "tuple"]
def fa : List He.Fa := fa0 ++ fa1 ++ fa2
def names0 : List Str := ["_wall", "is_door", "need_web", "next_ones", "way_by", "taken_and_ring", "ring", "enough", "without", "_law_taken", "_law_free", "_law_link", "_law_web", "_law_bad", "_law_spoilt", "_law_word", "_law_works", "PortError", "BadWeb", "BadNet", "BadPlace", "BadTime", "BadHost", "HasRing", "Net", "MOST_BOXES", "DOORS", "MOST_LINKS", "MOST_AGE", "MOST_ROOM"]
def names1 : List Str := ["MOST_HOSTS", "MOST_TIME", "MOST_STEPS"]
def names : List Str := names0 ++ names1
/-- what else is asked of the classes -/
def x_oex (K : PySem.W.Frag) : Bool := (Hy.oexAll K (He.ga K "BadWeb"))
def x_nno (K : PySem.W.Frag) : Bool := (decide (PySem.W.findIn K (.ref (He.ga K "BadWeb")) "number" = some none))
def x_iC (K : PySem.W.Frag) : Bool := (decide (PySem.W.findIn K (.ref (He.ga K "BadWeb")) "__init__" = some (some (.ref (He.ma K (He.ga K "BadWeb") "__init__")))))
def x_tI (K : PySem.W.Frag) : Bool := (decide (PySem.W.typeIn K (.ref (He.ma K (He.ga K "BadWeb") "__init__")) = some (.type "function")))
def x_ini (K : PySem.W.Frag) : Bool := (Hy.iniB K (He.ga K "PortError"))
def x_exm (K : PySem.W.Frag) : Bool := (decide (PySem.W.exmOne K (.ref (He.ga K "BadWeb")) (.ref (He.ga K "PortError")) = some true))
def x_exc (K : PySem.W.Frag) : Bool := (Hy.excB K (He.ga K "BadWeb"))
def x_xf (K : PySem.W.Frag) : Bool := (xfB K (He.ga K "BadWeb"))
def x_k0 (K : PySem.W.Frag) : Bool := (decide (PySem.W.kitAny K (.ref (He.ga K "BadWeb")) (([He.ga K "BadHost", He.ga K "BadNet", He.ga K "BadPlace", He.ga K "BadTime", He.ga K "HasRing"] : List Addr).map Value.ref) = some false))
def x_k1 (K : PySem.W.Frag) : Bool := (decide (PySem.W.kitOne K (.ref (He.ga K "BadWeb")) (.ref (He.ga K "BadWeb")) = some true))
def x_k2 (K : PySem.W.Frag) : Bool := (decide (PySem.W.kitOne K (.ref (He.ga K "BadWeb")) (.type "ValueError") = some true))
def exF (K : PySem.W.Frag) : Bool := x_oex K && x_nno K && x_iC K && x_tI K && x_ini K && x_exm K && x_exc K && x_xf K && x_k0 K && x_k1 K && x_k2 K
def tf : List He.Defn := [("_law_works", none)]
abbrev R : PySem.W.OpenRow := PySem.W.OpenLaw.row PySem.Challenge.rw_learnports_k01_webs_refused
abbrev hk : PySem.W.Hook := Hy.hookY 5 fa fn tf exF
def ob (s : PySem.W.SharedT) : Hy.AlY := Hy.obsY 5 fa fn tf exF (HandSHeadRun.getT s)
theorem ob_eq (s : PySem.W.SharedT) : ob s = hk.obs s.abs := Hy.obsY_eq (HandSHeadRun.getT_eq s)
theorem run (w : World) : HandSHeadRun.RunEq R (PySem.W.view R.prog [37]) hk ob 4000 names w := by
  intro os
  kernel_rfl
end Hd

/-! Data by value over the hand layer: tuples (and lists that nobody changes any more) are values, what may change stands in a ghost heap of owned things. -/
namespace Dg
open PySem PySem.Spec PyProof.Rows L2

inductive D where
  | non | bl (b : Bool) | int (i : Int) | str (x : Str) | tup (xs : List D) | lst (xs : List D) | ref (a : Addr)

/-- lists that nobody changes any more -/
abbrev Fz := Addr → Prop
mutual
def Is (F : Fz) (H : Hp) : D → V → Prop
  | .non, v => v = .non
  | .bl b, v => v = .bl b
  | .int i, v => v = .int i
  | .str x, v => v = .str x
  | .ref a, v => v = .ref a
  | .tup ds, v => ∃ a vs, v = .ref a ∧ H a = some (.tup vs) ∧ IsL F H ds vs
  | .lst ds, v => ∃ a vs, v = .ref a ∧ F a ∧ H a = some (.lst vs) ∧ IsL F H ds vs
def IsL (F : Fz) (H : Hp) : List D → List V → Prop
  | [], vs => vs = []
  | d :: ds, vs => ∃ v r, vs = v :: r ∧ Is F H d v ∧ IsL F H ds r
end

/-- a thing that never changes, known to the object: a function, a code object, a cell that is written no more -/
def FzO (o : Obj) : HO := .frz o (.ext fun _ => True)
structure Ext (F : Fz) (H : Hp) (F' : Fz) (H' : Hp) : Prop where
  f : ∀ a, F a → F' a
  l : ∀ a, F a → H' a = H a
  t : ∀ a xs, H a = some (.tup xs) → H' a = some (.tup xs)
  z : ∀ a o, H a = some (FzO o) → H' a = some (FzO o)
theorem Ext.refl (F : Fz) (H : Hp) : Ext F H F H := ⟨fun _ h => h, fun _ _ => rfl, fun _ _ h => h, fun _ _ h => h⟩
theorem Ext.trans {F F1 F2 : Fz} {H H1 H2 : Hp} (a : Ext F H F1 H1) (b : Ext F1 H1 F2 H2) : Ext F H F2 H2 :=
  ⟨fun x h => b.f x (a.f x h), fun x h => (b.l x (a.f x h)).trans (a.l x h), fun x xs h => b.t x xs (a.t x xs h), fun x o h => b.z x o (a.z x o h)⟩

/-- .. of data alone -/
structure Ex3 (F : Fz) (H : Hp) (F' : Fz) (H' : Hp) : Prop where
  f : ∀ a, F a → F' a
  l : ∀ a, F a → H' a = H a
  t : ∀ a xs, H a = some (.tup xs) → H' a = some (.tup xs)
theorem Ext.x3 {F F' : Fz} {H H' : Hp} (e : Ext F H F' H') : Ex3 F H F' H' := ⟨e.f, e.l, e.t⟩
mutual
theorem Is.mono3 {F F' : Fz} {H H' : Hp} (e : Ex3 F H F' H') : ∀ {d : D} {v : V}, Is F H d v → Is F' H' d v
  | .non, _, h => by rw [Is] at h ⊢; exact h
  | .bl _, _, h => by rw [Is] at h ⊢; exact h
  | .int _, _, h => by rw [Is] at h ⊢; exact h
  | .str _, _, h => by rw [Is] at h ⊢; exact h
  | .ref _, _, h => by rw [Is] at h ⊢; exact h
  | .tup ds, _, h => by
    rw [Is] at h ⊢
    obtain ⟨a, vs, h1, h2, h3⟩ := h
    exact ⟨a, vs, h1, e.t a vs h2, IsL.mono3 e h3⟩
  | .lst ds, _, h => by
    rw [Is] at h ⊢
    obtain ⟨a, vs, h1, h2, h3, h4⟩ := h
    exact ⟨a, vs, h1, e.f a h2, (e.l a h2).trans h3, IsL.mono3 e h4⟩
theorem IsL.mono3 {F F' : Fz} {H H' : Hp} (e : Ex3 F H F' H') : ∀ {ds : List D} {vs : List V}, IsL F H ds vs → IsL F' H' ds vs
  | [], _, h => by rw [IsL] at h ⊢; exact h
  | d :: ds, _, h => by
    rw [IsL] at h ⊢
    obtain ⟨v, r, h1, h2, h3⟩ := h
    exact ⟨v, r, h1, Is.mono3 e h2, IsL.mono3 e h3⟩
end
theorem Is.mono {F F' : Fz} {H H' : Hp} (e : Ext F H F' H') {d : D} {v : V} (h : Is F H d v) : Is F' H' d v := h.mono3 e.x3
theorem IsL.mono {F F' : Fz} {H H' : Hp} (e : Ext F H F' H') {ds : List D} {vs : List V} (h : IsL F H ds vs) : IsL F' H' ds vs := h.mono3 e.x3
theorem is_non {F : Fz} {H : Hp} {v : V} : Is F H .non v ↔ v = .non := by rw [Is]
theorem is_bl {F : Fz} {H : Hp} {b : Bool} {v : V} : Is F H (.bl b) v ↔ v = .bl b := by rw [Is]
theorem is_int {F : Fz} {H : Hp} {i : Int} {v : V} : Is F H (.int i) v ↔ v = .int i := by rw [Is]
theorem is_str {F : Fz} {H : Hp} {x : Str} {v : V} : Is F H (.str x) v ↔ v = .str x := by rw [Is]
theorem is_ref {F : Fz} {H : Hp} {a : Addr} {v : V} : Is F H (.ref a) v ↔ v = .ref a := by rw [Is]
theorem is_tup {F : Fz} {H : Hp} {ds : List D} {v : V} : Is F H (.tup ds) v ↔ ∃ a vs, v = .ref a ∧ H a = some (.tup vs) ∧ IsL F H ds vs := by rw [Is]
theorem is_lst {F : Fz} {H : Hp} {ds : List D} {v : V} : Is F H (.lst ds) v ↔ ∃ a vs, v = .ref a ∧ F a ∧ H a = some (.lst vs) ∧ IsL F H ds vs := by rw [Is]
theorem isL_nil {F : Fz} {H : Hp} {vs : List V} : IsL F H [] vs ↔ vs = [] := by rw [IsL]
theorem isL_cons {F : Fz} {H : Hp} {d : D} {ds : List D} {vs : List V} : IsL F H (d :: ds) vs ↔ ∃ v r, vs = v :: r ∧ Is F H d v ∧ IsL F H ds r := by rw [IsL]
theorem IsL.cons {F : Fz} {H : Hp} {d : D} {ds : List D} {v : V} {vs : List V} (h : Is F H d v) (hs : IsL F H ds vs) : IsL F H (d :: ds) (v :: vs) := isL_cons.mpr ⟨v, vs, rfl, h, hs⟩
theorem IsL.nil {F : Fz} {H : Hp} : IsL F H [] [] := isL_nil.mpr rfl
theorem IsL.length {F : Fz} {H : Hp} : ∀ {ds : List D} {vs : List V}, IsL F H ds vs → vs.length = ds.length
  | [], vs, h => by
    rw [isL_nil.mp h]
    rfl
  | d :: ds, vs, h => by
    obtain ⟨v, r, rfl, _, h3⟩ := isL_cons.mp h
    rw [List.length_cons, List.length_cons, IsL.length h3]
theorem IsL.get {F : Fz} {H : Hp} : ∀ {ds : List D} {vs : List V} {i : Nat} {d : D}, IsL F H ds vs → ds[i]? = some d → ∃ v, vs[i]? = some v ∧ Is F H d v
  | [], vs, i, d, h, e => by simp at e
  | d :: ds, vs, 0, x, h, e => by
    obtain ⟨v, r, rfl, h2, h3⟩ := isL_cons.mp h
    have e : d = x := by simpa using e
    subst e
    exact ⟨v, rfl, h2⟩
  | d :: ds, vs, i + 1, x, h, e => by
    obtain ⟨v, r, rfl, h2, h3⟩ := isL_cons.mp h
    have e : ds[i]? = some x := by simpa using e
    obtain ⟨w, h4, h5⟩ := IsL.get h3 e
    exact ⟨w, by simpa using h4, h5⟩
theorem IsL.getV {F : Fz} {H : Hp} {ds : List D} {vs : List V} {i : Nat} {v : V} (h : IsL F H ds vs) (e : vs[i]? = some v) : ∃ d, ds[i]? = some d ∧ Is F H d v := by
  have hl := h.length
  have hi : i < vs.length := by
    rcases Nat.lt_or_ge i vs.length with z | z
    · exact z
    · rw [List.getElem?_eq_none z] at e
      cases e
  have e2 : ds[i]? = some (ds[i]'(by omega)) := List.getElem?_eq_getElem (by omega)
  obtain ⟨w, h4, h5⟩ := h.get e2
  rw [h4] at e
  cases e
  exact ⟨_, e2, h5⟩
theorem IsL.append {F : Fz} {H : Hp} : ∀ {ds es : List D} {vs us : List V}, IsL F H ds vs → IsL F H es us → IsL F H (ds ++ es) (vs ++ us)
  | [], es, vs, us, h, h2 => by
    rw [isL_nil.mp h]
    exact h2
  | d :: ds, es, vs, us, h, h2 => by
    obtain ⟨v, r, rfl, h3, h4⟩ := isL_cons.mp h
    exact IsL.cons h3 (IsL.append h4 h2)
theorem IsL.set {F : Fz} {H : Hp} {d : D} {v : V} (hd : Is F H d v) : ∀ {ds : List D} {vs : List V} (i : Nat), IsL F H ds vs → IsL F H (ds.set i d) (vs.set i v)
  | [], vs, i, h => by
    rw [isL_nil.mp h]
    exact IsL.nil
  | x :: ds, vs, 0, h => by
    obtain ⟨w, r, rfl, h3, h4⟩ := isL_cons.mp h
    exact IsL.cons hd h4
  | x :: ds, vs, i + 1, h => by
    obtain ⟨w, r, rfl, h3, h4⟩ := isL_cons.mp h
    exact IsL.cons h3 (IsL.set hd i h4)
theorem IsL.take {F : Fz} {H : Hp} : ∀ {ds : List D} {vs : List V} (n : Nat), IsL F H ds vs → IsL F H (ds.take n) (vs.take n)
  | _, _, 0, _ => IsL.nil
  | [], vs, n + 1, h => by
    rw [isL_nil.mp h]
    exact IsL.nil
  | x :: ds, vs, n + 1, h => by
    obtain ⟨w, r, rfl, h3, h4⟩ := isL_cons.mp h
    exact IsL.cons h3 (IsL.take n h4)
theorem IsL.drop {F : Fz} {H : Hp} : ∀ {ds : List D} {vs : List V} (n : Nat), IsL F H ds vs → IsL F H (ds.drop n) (vs.drop n)
  | _, _, 0, h => h
  | [], vs, n + 1, h => by
    rw [isL_nil.mp h]
    exact IsL.nil
  | x :: ds, vs, n + 1, h => by
    obtain ⟨w, r, rfl, h3, h4⟩ := isL_cons.mp h
    exact IsL.drop n h4
theorem IsL.ints {F : Fz} {H : Hp} : ∀ {ns : List Int} {vs : List V}, IsL F H (ns.map D.int) vs → vs = ns.map V.int
  | [], vs, h => isL_nil.mp h
  | n :: ns, vs, h => by
    obtain ⟨w, r, rfl, h3, h4⟩ := isL_cons.mp (show IsL F H (D.int n :: ns.map D.int) vs from h)
    rw [is_int.mp h3, IsL.ints h4]
    rfl
theorem IsL.of_ints {F : Fz} {H : Hp} : ∀ {ns : List Int}, IsL F H (ns.map D.int) (ns.map V.int)
  | [] => IsL.nil
  | n :: ns => IsL.cons (is_int.mpr rfl) IsL.of_ints
theorem IsL.refs {F : Fz} {H : Hp} : ∀ {ns : List Addr} {vs : List V}, IsL F H (ns.map D.ref) vs → vs = ns.map V.ref
  | [], vs, h => isL_nil.mp h
  | n :: ns, vs, h => by
    obtain ⟨w, r, rfl, h3, h4⟩ := isL_cons.mp (show IsL F H (D.ref n :: ns.map D.ref) vs from h)
    rw [is_ref.mp h3, IsL.refs h4]
    rfl
theorem IsL.of_refs {F : Fz} {H : Hp} : ∀ {ns : List Addr}, IsL F H (ns.map D.ref) (ns.map V.ref)
  | [] => IsL.nil
  | n :: ns => IsL.cons (is_ref.mpr rfl) IsL.of_refs

/-! ### the ghost heap -/
/-- a function without parameters that a lambda made: its qualified name, its text, its captured cells -/
structure LamR where
  q : Str
  params : Arguments
  body : Expr
  scope : Scope
  cl : List (Str × Addr)
/-- fn L none: what it captured is not told; tab q g: the table of a def's code objects, all by the name q; g: how all stood at some time -/
inductive SO where
  | lst (xs : List D) | dK (kvs : List (Key × D)) | dT (kvs : List (List Key × D)) | lkK (z : HO) (kvs : List (Key × D)) | lkT (z : HO) (kvs : List (List Key × D))
  | ins (C dx : Addr) (fs : List (Str × D)) | scr (ns : List Int) | raw (o : HO) | fn (L : LamR) (ds : Option (List D)) | tab (q : Str) (g : Option (Fz × Hp))
def SO.isFn : SO → Bool
  | .fn _ _ => true
  | _ => false
/-- no function, no table -/
def SO.pl : SO → Bool
  | .fn _ _ => false
  | .tab _ _ => false
  | _ => true
theorem SO.pl_fn {o : SO} (h : o.pl = true) : o.isFn = false := by
  cases o with
  | fn L ds => cases h
  | _ => rfl
/-- the code object at c bears the name q -/
def CodeN (H : Hp) (c : Addr) (q : Str) : Prop := ∃ (oc : Obj) (vs : Array Value) (t : Tok), H c = some (FzO oc) ∧ oc.data = .fields vs ∧ vs[1]? = some (.str q t)
/-- cells and what they hold -/
def CellsN (H : Hp) : List Addr → List V → Prop := Paired fun c v => ∃ (oc : Obj) (u : Value), H c = some (FzO oc) ∧ oc.data = .cell (some u) ∧ RelV v u
theorem CodeN.mono {F F' : Fz} {H H' : Hp} {c : Addr} {q : Str} (e : Ext F H F' H') (h : CodeN H c q) : CodeN H' c q := by
  obtain ⟨oc, vs, t, h1, h2⟩ := h
  exact ⟨oc, vs, t, e.z _ _ h1, h2⟩
theorem CellsN.mono {F F' : Fz} {H H' : Hp} {as : List Addr} {vs : List V} (e : Ext F H F' H') (h : CellsN H as vs) : CellsN H' as vs :=
  Paired.mapP h fun _ _ ⟨oc, u, h1, h2⟩ => ⟨oc, u, e.z _ _ h1, h2⟩
abbrev LamR.o (L : LamR) (pm ctv : Value) (c : Addr) : Obj := PySem.W.kla_obj "<lambda>" L.q L.params L.body L.scope L.cl pm c ctv
/-- a simple thing, or one that is laid over several -/
inductive GO where
  | sm (o : SO)
  | cmp (L : Addr → List (Addr × SO) → Prop)
abbrev Gp := Addr → Option GO
def ud (G : Gp) (a : Addr) (g : GO) : Gp := fun b => if b = a then some g else G b
theorem ud_same {G : Gp} {a : Addr} {g : GO} : ud G a g a = some g := if_pos rfl
theorem ud_ne {G : Gp} {a b : Addr} {g : GO} (h : b ≠ a) : ud G a g b = G b := if_neg h
theorem ud_ud {G : Gp} {a : Addr} {g g' : GO} : ud (ud G a g) a g' = ud G a g' := by
  funext b
  unfold ud
  split <;> rfl
theorem ud_self {G : Gp} {a : Addr} {g : GO} (h : G a = some g) : ud G a g = G := by
  funext b
  unfold ud
  split
  · rename_i e
    rw [e, h]
  · rfl
theorem ud_comm {G : Gp} {a b : Addr} {g g' : GO} (h : a ≠ b) : ud (ud G a g) b g' = ud (ud G b g') a g := by
  funext c
  unfold ud
  by_cases e1 : c = b
  · rw [if_pos e1, if_neg (fun z => h (z.symm.trans e1)), if_pos e1]
  · rw [if_neg e1, if_neg e1]
def er (G : Gp) (a : Addr) : Gp := fun b => if b = a then none else G b
theorem er_same {G : Gp} {a : Addr} : er G a a = none := if_pos rfl
theorem er_ne {G : Gp} {a b : Addr} (h : b ≠ a) : er G a b = G b := if_neg h
theorem er_ud {G : Gp} {a : Addr} {g : GO} (h : G a = none) : er (ud G a g) a = G := by
  funext b
  unfold er ud
  by_cases e : b = a
  · rw [if_pos e, e, h]
  · rw [if_neg e, if_neg e]

def IsP {κ : Type} (F : Fz) (H : Hp) : List (κ × D) → List (κ × V) → Prop := Paired fun p q => p.1 = q.1 ∧ Is F H p.2 q.2
theorem IsP.mono {κ : Type} {F F' : Fz} {H H' : Hp} (e : Ext F H F' H') {kds : List (κ × D)} {kvs : List (κ × V)} (h : IsP F H kds kvs) : IsP F' H' kds kvs :=
  Paired.mapP h fun _ _ z => ⟨z.1, Is.mono e z.2⟩
theorem IsP.keys {κ : Type} {F : Fz} {H : Hp} : ∀ {kds : List (κ × D)} {kvs : List (κ × V)}, IsP F H kds kvs → kvs.map (·.1) = kds.map (·.1)
  | _, _, .nil => rfl
  | _, _, .cons r t => by
    have ih := IsP.keys t
    rw [List.map_cons, List.map_cons, ih, r.1]
theorem IsP.length {κ : Type} {F : Fz} {H : Hp} {kds : List (κ × D)} {kvs : List (κ × V)} (h : IsP F H kds kvs) : kvs.length = kds.length := by
  have e := congrArg List.length h.keys
  rwa [List.length_map, List.length_map] at e
def Sm (F : Fz) (H : Hp) : SO → HO → Prop
  | .lst ds, h => ∃ vs, h = .lst vs ∧ IsL F H ds vs
  | .dK kds, h => ∃ kvs, h = .dK kvs ∧ IsP F H kds kvs
  | .dT kds, h => ∃ kvs, h = .dT kvs ∧ IsP F H kds kvs
  | .lkK z kds, h => h = z ∧ ∃ o kvs, h = .frz o (.dK kvs) ∧ IsP F H kds kvs
  | .lkT z kds, h => h = z ∧ ∃ o kvs, h = .frz o (.dT kvs) ∧ IsP F H kds kvs
  | .ins C dx fs, h => ∃ gs, h = .ins C dx gs ∧ IsP F H fs gs
  | .scr ns, h => h = .lst (ns.map V.int) ∨ ∃ o, h = .frz o (.lst (ns.map V.int))
  | .raw o, h => h = o ∧ (∀ xs, o ≠ .tup xs) ∧ ∀ z, o ≠ FzO z
  | .fn L ds, h => (L.cl.map (·.2)).Nodup ∧ ∃ (pm ctv : Value) (c : Addr), h = FzO (L.o pm ctv c) ∧ CodeN H c L.q ∧ (∀ es, ds = some es → ∃ vs, IsL F H es vs ∧ CellsN H (L.cl.map (·.2)) vs)
  | .tab q g, h => (∃ ps : Array Value, h = .tbl ps ∧ TriplesOk ps.toList ∧ ∀ (pos : Pos) (cv : Value), codeAmong pos ps.toList = some cv → ∃ c, cv = .ref c ∧ CodeN H c q) ∧ ∀ p, g = some p → Ext p.1 p.2 F H
theorem Sm.mono {F F' : Fz} {H H' : Hp} (e : Ext F H F' H') {o : SO} {h : HO} (s : Sm F H o h) : Sm F' H' o h := by
  cases o with
  | lst ds => obtain ⟨vs, h1, h2⟩ := s; exact ⟨vs, h1, h2.mono e⟩
  | dK ds => obtain ⟨vs, h1, h2⟩ := s; exact ⟨vs, h1, h2.mono e⟩
  | dT ds => obtain ⟨vs, h1, h2⟩ := s; exact ⟨vs, h1, h2.mono e⟩
  | lkK zz ds => obtain ⟨h0, z, vs, h1, h2⟩ := s; exact ⟨h0, z, vs, h1, h2.mono e⟩
  | lkT zz ds => obtain ⟨h0, z, vs, h1, h2⟩ := s; exact ⟨h0, z, vs, h1, h2.mono e⟩
  | ins C dx fs => obtain ⟨vs, h1, h2⟩ := s; exact ⟨vs, h1, h2.mono e⟩
  | scr ns => exact s
  | raw o => exact s
  | fn L ds =>
    obtain ⟨h0, pm, ctv, c, h1, h2, h3⟩ := s
    refine ⟨h0, pm, ctv, c, h1, h2.mono e, fun es he => ?_⟩
    obtain ⟨vs, h4, h5⟩ := h3 es he
    exact ⟨vs, h4.mono e, h5.mono e⟩
  | tab q g =>
    obtain ⟨⟨ps, h1, h2, h3⟩, h4⟩ := s
    refine ⟨⟨ps, h1, h2, fun pos cv hc => ?_⟩, fun p hp => (h4 p hp).trans e⟩
    obtain ⟨c, h5, h6⟩ := h3 pos cv hc
    exact ⟨c, h5, h6.mono e⟩
theorem Sm.notTup {F : Fz} {H : Hp} {o : SO} {h : HO} (s : Sm F H o h) (xs : List V) : h ≠ .tup xs := by
  cases o with
  | lst ds => obtain ⟨vs, h1, h2⟩ := s; rw [h1]; exact HO.noConfusion
  | dK ds => obtain ⟨vs, h1, h2⟩ := s; rw [h1]; exact HO.noConfusion
  | dT ds => obtain ⟨vs, h1, h2⟩ := s; rw [h1]; exact HO.noConfusion
  | lkK zz ds => obtain ⟨h0, z, vs, h1, h2⟩ := s; rw [h1]; exact HO.noConfusion
  | lkT zz ds => obtain ⟨h0, z, vs, h1, h2⟩ := s; rw [h1]; exact HO.noConfusion
  | ins C dx fs => obtain ⟨vs, h1, h2⟩ := s; rw [h1]; exact HO.noConfusion
  | scr ns =>
    rcases s with h1 | ⟨z, h1⟩
    · rw [h1]; exact HO.noConfusion
    · rw [h1]; exact HO.noConfusion
  | raw o => rw [s.1]; exact s.2.1 xs
  | fn L ds => obtain ⟨_, pm, ctv, c, h1, _⟩ := s; rw [h1]; exact HO.noConfusion
  | tab q g => obtain ⟨⟨ps, h1, _⟩, _⟩ := s; rw [h1]; exact HO.noConfusion
theorem Sm.notFz {F : Fz} {H : Hp} {o : SO} {h : HO} (s : Sm F H o h) (n : o.isFn = false) (z : Obj) : h ≠ FzO z := by
  unfold FzO
  cases o with
  | lst ds => obtain ⟨vs, h1, h2⟩ := s; rw [h1]; exact HO.noConfusion
  | dK ds => obtain ⟨vs, h1, h2⟩ := s; rw [h1]; exact HO.noConfusion
  | dT ds => obtain ⟨vs, h1, h2⟩ := s; rw [h1]; exact HO.noConfusion
  | lkK zz ds => obtain ⟨h0, w, vs, h1, h2⟩ := s; rw [h1]; intro e; cases e
  | lkT zz ds => obtain ⟨h0, w, vs, h1, h2⟩ := s; rw [h1]; intro e; cases e
  | ins C dx fs => obtain ⟨vs, h1, h2⟩ := s; rw [h1]; exact HO.noConfusion
  | scr ns =>
    rcases s with h1 | ⟨w, h1⟩
    · rw [h1]; intro e; cases e
    · rw [h1]; intro e; cases e
  | raw o => rw [s.1]; exact s.2.2 z
  | fn L ds => cases n
  | tab q g => obtain ⟨⟨ps, h1, _⟩, _⟩ := s; rw [h1]; exact HO.noConfusion

abbrev Sp0 := Addr → Option SO
def HgS (F : Fz) (H : Hp) (S : Sp0) : Prop := ∀ a o, S a = some o → ¬ F a ∧ ∃ h, H a = some h ∧ Sm F H o h
def Fok (F : Fz) (H : Hp) : Prop := ∀ a, F a → ∃ vs, H a = some (.lst vs)
def Flat (G : Gp) (S : Sp0) (ow : Addr → Addr) : Prop := ∀ a g, G a = some g → ow a = a ∧ (match g with
  | .sm o => S a = some o
  | .cmp L => ∃ ps, L a ps ∧ ((∃ o, (a, o) ∈ ps) ∧ (ps.all fun p => p.2.pl) = true) ∧ ∀ b o, (b, o) ∈ ps → S b = some o ∧ ow b = a)
structure Hg (F : Fz) (H : Hp) (G : Gp) : Prop where
  fok : Fok F H
  ex : ∃ S ow, HgS F H S ∧ Flat G S ow

theorem Flat.here {G : Gp} {S : Sp0} {ow : Addr → Addr} (f : Flat G S ow) {a : Addr} {g : GO} (h : G a = some g) : ∃ o, S a = some o := by
  have z := (f a g h).2
  cases g with
  | sm o => exact ⟨o, z⟩
  | cmp L =>
    obtain ⟨ps, _, ⟨⟨o, ho⟩, _⟩, h2⟩ := z
    exact ⟨o, (h2 a o ho).1⟩
theorem Hg.here {F : Fz} {H : Hp} {G : Gp} (g : Hg F H G) {a : Addr} {x : GO} (h : G a = some x) : ∃ o, H a = some o := by
  obtain ⟨S, ow, hs, f⟩ := g.ex
  obtain ⟨o, ho⟩ := f.here h
  obtain ⟨_, z, hz, _⟩ := hs a o ho
  exact ⟨z, hz⟩
theorem Hg.fresh {F : Fz} {H : Hp} {G : Gp} (g : Hg F H G) {p : Addr} (h : H p = none) : G p = none := by
  cases e : G p with
  | none => rfl
  | some x =>
    obtain ⟨o, ho⟩ := g.here e
    rw [h] at ho
    cases ho
theorem Hg.get {F : Fz} {H : Hp} {G : Gp} (g : Hg F H G) {a : Addr} {o : SO} (h : G a = some (.sm o)) : ∃ z, H a = some z ∧ Sm F H o z := by
  obtain ⟨S, ow, hs, f⟩ := g.ex
  have e : S a = some o := (f a _ h).2
  exact (hs a o e).2
theorem Hg.mono {F : Fz} {H : Hp} {G G' : Gp} (g : Hg F H G) (k : ∀ a x, G' a = some x → G a = some x) : Hg F H G' := by
  obtain ⟨S, ow, hs, f⟩ := g.ex
  exact ⟨g.fok, S, ow, hs, fun a x e => f a x (k a x e)⟩
theorem Fok.upd {F : Fz} {H : Hp} {p : Addr} {o : HO} (f : Fok F H) (h : ¬ F p) : Fok F (upd H p o) := fun a ha => by
  have ne : a ≠ p := fun e => h (e ▸ ha)
  rw [upd_ne ne]
  exact f a ha
theorem ext_new {F : Fz} {H : Hp} {p : Addr} {o : HO} (f : Fok F H) (h : H p = none) : Ext F H F (upd H p o) :=
  ⟨fun _ z => z, fun a ha => upd_ne (fun e => by
    obtain ⟨vs, z⟩ := f a ha
    rw [e, h] at z
    cases z), fun a xs z => (upd_ne (ne_of_none z h)).trans z, fun a o z => (upd_ne (ne_of_none z h)).trans z⟩
theorem nf_new {F : Fz} {H : Hp} {p : Addr} (f : Fok F H) (h : H p = none) : ¬ F p := fun ha => by
  obtain ⟨vs, z⟩ := f p ha
  rw [h] at z
  cases z
/-- a new thing that is owned -/
theorem Hg.new {F : Fz} {H : Hp} {G : Gp} (g : Hg F H G) {p : Addr} {o : SO} {z : HO} (h : H p = none) (s : Sm F (upd H p z) o z) : Hg F (upd H p z) (ud G p (.sm o)) := by
  obtain ⟨S, ow, hs, f⟩ := g.ex
  have ex : Ext F H F (upd H p z) := ext_new g.fok h
  have nf := nf_new g.fok h
  have sp : ∀ b o, S b = some o → b ≠ p := fun b o e q => by
    obtain ⟨_, y, hy, _⟩ := hs b o e
    rw [q, h] at hy
    cases hy
  refine ⟨g.fok.upd nf, fun b => if b = p then some o else S b, fun b => if b = p then p else ow b, fun b x e => ?_, fun a x e => ?_⟩
  · by_cases hb : b = p
    · have e2 : (if b = p then some o else S b) = some x := e
      rw [if_pos hb] at e2
      cases e2
      subst hb
      exact ⟨nf, z, upd_same, s⟩
    · have e2 : (if b = p then some o else S b) = some x := e
      rw [if_neg hb] at e2
      obtain ⟨n1, y, hy, sy⟩ := hs b x e2
      exact ⟨n1, y, by rw [upd_ne hb]; exact hy, sy.mono ex⟩
  · by_cases ha : a = p
    · subst ha
      rw [ud_same] at e
      cases e
      exact ⟨if_pos rfl, if_pos rfl⟩
    · rw [ud_ne ha] at e
      obtain ⟨h1, h2⟩ := f a x e
      refine ⟨by show (if a = p then p else ow a) = a; rw [if_neg ha]; exact h1, ?_⟩
      cases x with
      | sm y => show (if a = p then some o else S a) = some y; rw [if_neg ha]; exact h2
      | cmp L =>
        obtain ⟨ps, l, ho, hp⟩ := h2
        refine ⟨ps, l, ho, fun b y hb => ?_⟩
        obtain ⟨h3, h4⟩ := hp b y hb
        have nb := sp b y h3
        exact ⟨by show (if b = p then some o else S b) = some y; rw [if_neg nb]; exact h3, by show (if b = p then p else ow b) = a; rw [if_neg nb]; exact h4⟩
/-- something new that nobody owns (a tuple) -/
theorem Hg.newT {F : Fz} {H : Hp} {G : Gp} (g : Hg F H G) {p : Addr} {z : HO} (h : H p = none) : Hg F (upd H p z) G := by
  obtain ⟨S, ow, hs, f⟩ := g.ex
  have ex : Ext F H F (upd H p z) := ext_new g.fok h
  refine ⟨g.fok.upd (nf_new g.fok h), S, ow, fun b x e => ?_, f⟩
  obtain ⟨n1, y, hy, sy⟩ := hs b x e
  exact ⟨n1, y, by rw [upd_ne (ne_of_none hy h)]; exact hy, sy.mono ex⟩
theorem ext_own {F : Fz} {H : Hp} {G : Gp} (g : Hg F H G) {a : Addr} {o : SO} {z : HO} (h : G a = some (.sm o)) (nn : o.isFn = false := by rfl) : Ext F H F (upd H a z) := by
  obtain ⟨S, ow, hs, f⟩ := g.ex
  have e : S a = some o := (f a _ h).2
  obtain ⟨nf, y, hy, sy⟩ := hs a o e
  exact ⟨fun _ q => q, fun b hb => upd_ne fun q => nf (q ▸ hb), fun b xs q => by
    have nb : b ≠ a := fun w => by
      rw [w, hy] at q
      exact sy.notTup xs (Option.some.inj q)
    rw [upd_ne nb]
    exact q, fun b x q => by
    have nb : b ≠ a := fun w => by
      rw [w, hy] at q
      exact sy.notFz nn x (Option.some.inj q)
    rw [upd_ne nb]
    exact q⟩
/-- an owned thing is changed -/
theorem Hg.set {F : Fz} {H : Hp} {G : Gp} (g : Hg F H G) {a : Addr} {o o' : SO} {z : HO} (h : G a = some (.sm o)) (s : Sm F (upd H a z) o' z) (nn : o.isFn = false := by rfl) : Hg F (upd H a z) (ud G a (.sm o')) := by
  have ex := ext_own (z := z) g h nn
  obtain ⟨S, ow, hs, f⟩ := g.ex
  have e0 : S a = some o := (f a _ h).2
  obtain ⟨nf, y0, hy0, sy0⟩ := hs a o e0
  refine ⟨g.fok.upd nf, fun b => if b = a then some o' else S b, ow, fun b x e => ?_, fun c x e => ?_⟩
  · by_cases hb : b = a
    · have e2 : (if b = a then some o' else S b) = some x := e
      rw [if_pos hb] at e2
      cases e2
      subst hb
      exact ⟨nf, z, upd_same, s⟩
    · have e2 : (if b = a then some o' else S b) = some x := e
      rw [if_neg hb] at e2
      obtain ⟨n1, y, hy, sy⟩ := hs b x e2
      exact ⟨n1, y, by rw [upd_ne hb]; exact hy, sy.mono ex⟩
  · by_cases hc : c = a
    · subst hc
      rw [ud_same] at e
      cases e
      exact ⟨(f c _ h).1, if_pos rfl⟩
    · rw [ud_ne hc] at e
      obtain ⟨h1, h2⟩ := f c x e
      refine ⟨h1, ?_⟩
      cases x with
      | sm y => show (if c = a then some o' else S c) = some y; rw [if_neg hc]; exact h2
      | cmp L =>
        obtain ⟨ps, l, ho, hp⟩ := h2
        refine ⟨ps, l, ho, fun b y hb => ?_⟩
        obtain ⟨h3, h4⟩ := hp b y hb
        have nb : b ≠ a := fun q => by
          have w := (f a _ h).1
          rw [q, w] at h4
          exact hc h4.symm
        exact ⟨by show (if b = a then some o' else S b) = some y; rw [if_neg nb]; exact h3, h4⟩
/-- a list is given up: it stays as it is for ever -/
theorem Hg.freeze {F : Fz} {H : Hp} {G : Gp} (g : Hg F H G) {p : Addr} {ds : List D} (h : G p = some (.sm (.lst ds))) :
    Ext F H (fun b => F b ∨ b = p) H ∧ Hg (fun b => F b ∨ b = p) H (er G p) ∧ Is (fun b => F b ∨ b = p) H (.lst ds) (.ref p) := by
  have ex : Ext F H (fun b => F b ∨ b = p) H := ⟨fun _ z => .inl z, fun _ _ => rfl, fun _ _ z => z, fun _ _ z => z⟩
  obtain ⟨S, ow, hs, f⟩ := g.ex
  have e0 : S p = some (.lst ds) := (f p _ h).2
  obtain ⟨nf, y0, hy0, vs, rfl, hl⟩ := hs p _ e0
  refine ⟨ex, ⟨fun a ha => ?_, fun b => if b = p then none else S b, ow, fun b x e => ?_, fun c x e => ?_⟩, is_lst.mpr ⟨p, vs, rfl, .inr rfl, hy0, hl.mono ex⟩⟩
  · rcases ha with ha | ha
    · exact g.fok a ha
    · rw [ha]
      exact ⟨vs, hy0⟩
  · by_cases hb : b = p
    · have e2 : (if b = p then none else S b) = some x := e
      rw [if_pos hb] at e2
      cases e2
    · have e2 : (if b = p then none else S b) = some x := e
      rw [if_neg hb] at e2
      obtain ⟨n1, y, hy, sy⟩ := hs b x e2
      exact ⟨fun z => z.elim n1 hb, y, hy, sy.mono ex⟩
  · by_cases hc : c = p
    · rw [hc, er_same] at e
      cases e
    · rw [er_ne hc] at e
      obtain ⟨h1, h2⟩ := f c x e
      refine ⟨h1, ?_⟩
      cases x with
      | sm y => show (if c = p then none else S c) = some y; rw [if_neg hc]; exact h2
      | cmp L =>
        obtain ⟨ps, l, ho, hp⟩ := h2
        refine ⟨ps, l, ho, fun b y hb => ?_⟩
        obtain ⟨h3, h4⟩ := hp b y hb
        have nb : b ≠ p := fun q => by
          have w := (f p _ h).1
          rw [q, w] at h4
          exact hc h4.symm
        exact ⟨by show (if b = p then none else S b) = some y; rw [if_neg nb]; exact h3, h4⟩
/-- a laid thing is opened -/
theorem Hg.openC {F : Fz} {H : Hp} {G : Gp} (g : Hg F H G) {a : Addr} {L : Addr → List (Addr × SO) → Prop} (h : G a = some (.cmp L)) :
    ∃ ps, L a ps ∧ (∃ o, (a, o) ∈ ps) ∧ (∀ b o, (b, o) ∈ ps → b ≠ a → G b = none) ∧ (∀ b o o', (b, o) ∈ ps → (b, o') ∈ ps → o = o') ∧
      ∀ G' : Gp, (∀ b x, G' b = some x → (G b = some x ∧ b ≠ a) ∨ ∃ o, (b, o) ∈ ps ∧ x = .sm o) → Hg F H G' := by
  obtain ⟨S, ow, hs, f⟩ := g.ex
  obtain ⟨h1, ps, l, ho, hp⟩ := f a _ h
  refine ⟨ps, l, ho.1, fun b o hb ne => ?_, fun b o o' hb hb' => ?_, fun G' k => ?_⟩
  · cases e : G b with
    | none => rfl
    | some x =>
      have w := (f b x e).1
      have w2 := (hp b o hb).2
      rw [w] at w2
      exact absurd w2 ne
  · have e1 := (hp b o hb).1
    have e2 := (hp b o' hb').1
    rw [e1] at e2
    exact Option.some.inj e2
  · have pin : ∀ b, (∃ o, (b, o) ∈ ps) ∨ ¬ (∃ o, (b, o) ∈ ps) := fun b => Classical.em _
    refine ⟨g.fok, S, fun b => @ite _ (∃ o, (b, o) ∈ ps) (Classical.propDecidable _) b (ow b), hs, fun b x e => ?_⟩
    rcases k b x e with ⟨e1, nb⟩ | ⟨o, hb, rfl⟩
    · obtain ⟨w1, w2⟩ := f b x e1
      have nin : ¬ ∃ o, (b, o) ∈ ps := fun ⟨o, hb⟩ => nb (by
        have z := (hp b o hb).2
        rw [w1] at z
        exact z)
      refine ⟨(if_neg nin).trans w1, ?_⟩
      cases x with
      | sm y => exact w2
      | cmp L' =>
        obtain ⟨ps', l', ho', hp'⟩ := w2
        refine ⟨ps', l', ho', fun c y hc => ?_⟩
        obtain ⟨w3, w4⟩ := hp' c y hc
        have nin2 : ¬ ∃ o, (c, o) ∈ ps := fun ⟨o, hb⟩ => nb (by
          have z := (hp c o hb).2
          rw [w4] at z
          exact z)
        exact ⟨w3, (if_neg nin2).trans w4⟩
    · exact ⟨if_pos ⟨o, hb⟩, (hp b o hb).1⟩
/-- simple things are laid together -/
theorem Hg.close {F : Fz} {H : Hp} {G : Gp} (g : Hg F H G) {a : Addr} {L : Addr → List (Addr × SO) → Prop} {ps : List (Addr × SO)} (l : L a ps) (ho : ∃ o, (a, o) ∈ ps) (hp : ∀ b o, (b, o) ∈ ps → G b = some (.sm o))
    {G' : Gp} (k : ∀ b x, G' b = some x → (b = a ∧ x = .cmp L) ∨ (G b = some x ∧ ∀ o, (b, o) ∉ ps)) (hpl : (ps.all fun p => p.2.pl) = true := by rfl) : Hg F H G' := by
  obtain ⟨S, ow, hs, f⟩ := g.ex
  refine ⟨g.fok, S, fun b => @ite _ (∃ o, (b, o) ∈ ps) (Classical.propDecidable _) a (ow b), hs, fun b x e => ?_⟩
  rcases k b x e with ⟨rfl, rfl⟩ | ⟨e1, nin⟩
  · refine ⟨if_pos ho, ps, l, ⟨ho, hpl⟩, fun c y hc => ⟨?_, if_pos ⟨y, hc⟩⟩⟩
    exact (f c _ (hp c y hc)).2
  · obtain ⟨w1, w2⟩ := f b x e1
    have nin' : ¬ ∃ o, (b, o) ∈ ps := fun ⟨o, z⟩ => nin o z
    refine ⟨(if_neg nin').trans w1, ?_⟩
    cases x with
    | sm y => exact w2
    | cmp L' =>
      obtain ⟨ps', l', ho', hp'⟩ := w2
      refine ⟨ps', l', ho', fun c y hc => ?_⟩
      obtain ⟨w3, w4⟩ := hp' c y hc
      have nin2 : ¬ ∃ o, (c, o) ∈ ps := fun ⟨o, z⟩ => by
        have e2 := hp c o z
        have w5 := (f c _ e2).1
        rw [w4] at w5
        subst w5
        rw [e1] at e2
        cases e2
      exact ⟨w3, (if_neg nin2).trans w4⟩
end Dg

namespace Dg
open PySem PySem.Spec L2

/-! ### readings over data -/
abbrev DSt := List (Option D)
abbrev DK := D → Gp → Prop
abbrev DE := DSt → Gp → DK → Prop
abbrev DT := DSt → Gp → (Bool → Gp → Prop) → Prop
abbrev DA := DSt → Gp → (List D → Gp → Prop) → Prop
structure DEnds where
  nx : DSt → Gp → Prop
  rt : DK
  bk : DSt → Gp → Prop := fun _ _ => False
  ct : DSt → Gp → Prop := fun _ _ => False
abbrev DS := DEnds → DSt → Gp → Prop
abbrev DG := D → DSt → Gp → (DSt → Gp → Prop) → Prop
abbrev DGs := List D → DSt → Gp → (DSt → Gp → Prop) → Prop

def IsS (F : Fz) (H : Hp) (s : DSt) (σ : St) : Prop := s.length = σ.length ∧ ∀ (i : Nat) (d : D), s[i]? = some (some d) → ∃ v, σ[i]? = some (some v) ∧ Is F H d v
theorem IsS.mono {F F' : Fz} {H H' : Hp} {s : DSt} {σ : St} (e : Ext F H F' H') (h : IsS F H s σ) : IsS F' H' s σ :=
  ⟨h.1, fun i d z => let ⟨v, a, b⟩ := h.2 i d z; ⟨v, a, b.mono e⟩⟩
theorem IsS.set {F : Fz} {H : Hp} {s : DSt} {σ : St} {d : D} {v : V} (h : IsS F H s σ) (i : Nat) (hd : Is F H d v) : IsS F H (s.set i (some d)) (σ.set i (some v)) := by
  refine ⟨by rw [List.length_set, List.length_set]; exact h.1, fun j x e => ?_⟩
  by_cases hj : i = j
  · subst hj
    by_cases hi : i < s.length
    · rw [List.getElem?_set_self hi] at e
      cases e
      exact ⟨v, by rw [List.getElem?_set_self (by rw [← h.1]; exact hi)], hd⟩
    · rw [List.getElem?_eq_none (by rw [List.length_set]; omega)] at e
      cases e
  · rw [List.getElem?_set_ne hj] at e
    obtain ⟨w, a, b⟩ := h.2 j x e
    exact ⟨w, by rw [List.getElem?_set_ne hj]; exact a, b⟩
theorem IsS.wipe1 {F : Fz} {H : Hp} {s : DSt} {σ : St} (h : IsS F H s σ) (i : Nat) : IsS F H (s.set i none) (σ.set i none) := by
  refine ⟨by rw [List.length_set, List.length_set]; exact h.1, fun j x e => ?_⟩
  by_cases hj : i = j
  · subst hj
    by_cases hi : i < s.length
    · rw [List.getElem?_set_self hi] at e
      cases e
    · rw [List.getElem?_eq_none (by rw [List.length_set]; omega)] at e
      cases e
  · rw [List.getElem?_set_ne hj] at e
    obtain ⟨w, a, b⟩ := h.2 j x e
    exact ⟨w, by rw [List.getElem?_set_ne hj]; exact a, b⟩
/-- a comprehension's own slots are empty outside it -/
def wipeD (s : DSt) : List Nat → DSt
  | [] => s
  | v :: vs => (wipeD s vs).set v none
theorem IsS.wipe {F : Fz} {H : Hp} {s : DSt} {σ : St} (h : IsS F H s σ) : ∀ vs : List Nat, IsS F H (wipeD s vs) (wipe σ vs)
  | [] => h
  | v :: vs => (IsS.wipe h vs).wipe1 v

def Kc (F : Fz) (H : Hp) (Q : VK) (Q' : DK) : Prop := ∀ v H' F' d G', Ext F H F' H' → Hg F' H' G' → Is F' H' d v → Q' d G' → Q v H'
theorem Kc.step {F F1 : Fz} {H H1 : Hp} {Q : VK} {Q' : DK} (k : Kc F H Q Q') (e : Ext F H F1 H1) : Kc F1 H1 Q Q' := fun v H' F' d G' e' g i q => k v H' F' d G' (e.trans e') g i q
theorem Kc.fin {F : Fz} {H : Hp} {Q : VK} {Q' : DK} (k : Kc F H Q Q') {G : Gp} {d : D} {v : V} (g : Hg F H G) (i : Is F H d v) (q : Q' d G) : Q v H := k v H F d G (Ext.refl F H) g i q
def Kb (F : Fz) (H : Hp) (Q : Bool → Hp → Prop) (Q' : Bool → Gp → Prop) : Prop := ∀ b H' F' G', Ext F H F' H' → Hg F' H' G' → Q' b G' → Q b H'
theorem Kb.step {F F1 : Fz} {H H1 : Hp} {Q : Bool → Hp → Prop} {Q' : Bool → Gp → Prop} (k : Kb F H Q Q') (e : Ext F H F1 H1) : Kb F1 H1 Q Q' := fun b H' F' G' e' g q => k b H' F' G' (e.trans e') g q
def Ka (F : Fz) (H : Hp) (Q : List V → Hp → Prop) (Q' : List D → Gp → Prop) : Prop := ∀ vs H' F' ds G', Ext F H F' H' → Hg F' H' G' → IsL F' H' ds vs → Q' ds G' → Q vs H'
theorem Ka.step {F F1 : Fz} {H H1 : Hp} {Q : List V → Hp → Prop} {Q' : List D → Gp → Prop} (k : Ka F H Q Q') (e : Ext F H F1 H1) : Ka F1 H1 Q Q' := fun v H' F' d G' e' g i q => k v H' F' d G' (e.trans e') g i q
def Ks (F : Fz) (H : Hp) (Q : St → Hp → Prop) (Q' : DSt → Gp → Prop) : Prop := ∀ σ' H' F' s' G', Ext F H F' H' → IsS F' H' s' σ' → Hg F' H' G' → Q' s' G' → Q σ' H'
theorem Ks.step {F F1 : Fz} {H H1 : Hp} {Q : St → Hp → Prop} {Q' : DSt → Gp → Prop} (k : Ks F H Q Q') (e : Ext F H F1 H1) : Ks F1 H1 Q Q' := fun v H' F' d G' e' i g q => k v H' F' d G' (e.trans e') i g q
structure Ek (F : Fz) (H : Hp) (D : Ends) (D' : DEnds) : Prop where
  nx : Ks F H D.nx D'.nx
  rt : Kc F H D.rt D'.rt
  bk : Ks F H D.bk D'.bk
  ct : Ks F H D.ct D'.ct
theorem Ek.step {F F1 : Fz} {H H1 : Hp} {D : Ends} {D' : DEnds} (k : Ek F H D D') (e : Ext F H F1 H1) : Ek F1 H1 D D' := ⟨k.nx.step e, k.rt.step e, k.bk.step e, k.ct.step e⟩

def lE (t : DE) : TE := fun σ H Q => ∃ F s G Q', IsS F H s σ ∧ Hg F H G ∧ t s G Q' ∧ Kc F H Q Q'
def lT (t : DT) : TT := fun σ H Q => ∃ F s G Q', IsS F H s σ ∧ Hg F H G ∧ t s G Q' ∧ Kb F H Q Q'
def lA (t : DA) : TA := fun σ H Q => ∃ F s G Q', IsS F H s σ ∧ Hg F H G ∧ t s G Q' ∧ Ka F H Q Q'
def lS (t : DS) : TS := fun D σ H => ∃ F s G D', IsS F H s σ ∧ Hg F H G ∧ t D' s G ∧ Ek F H D D'
def lG (g : DG) : TG := fun v σ H Q => ∃ F s G d Q', IsS F H s σ ∧ Hg F H G ∧ Is F H d v ∧ g d s G Q' ∧ Ks F H Q Q'
def lGs (g : DGs) : TGs := fun vs σ H Q => ∃ F s G ds Q', IsS F H s σ ∧ Hg F H G ∧ IsL F H ds vs ∧ g ds s G Q' ∧ Ks F H Q Q'

abbrev QE (X : Cx) (e : Expr) (t : DE) : Prop := PE X e (lE t)
abbrev QT (X : Cx) (e : Expr) (t : DT) : Prop := PT X e (lT t)
abbrev QW (X : Cx) (e : Expr) (t : DT) : Prop := PW X e (lT t)
abbrev QA (X : Cx) (es : List Expr) (t : DA) : Prop := PA X es (lA t)
abbrev QS (X : Cx) (st : Stmt) (t : DS) : Prop := PS X st (lS t)
abbrev QSs (X : Cx) (b : List Stmt) (t : DS) : Prop := PSs X b (lS t)
abbrev QG (X : Cx) (e : Expr) (t : DG) : Prop := PG X e (lG t)
abbrev QGs (X : Cx) (e : List Expr) (t : DGs) : Prop := PGs X e (lGs t)

section
variable {X : Cx}
theorem PE.weak {e : Expr} {t t' : TE} (h : PE X e t) (k : ∀ σ H Q, t' σ H Q → t σ H Q) : PE X e t' := ⟨fun pins s σ H Q I z => h.run pins s σ H Q I (k σ H Q z)⟩
theorem PT.weak {e : Expr} {t t' : TT} (h : PT X e t) (k : ∀ σ H Q, t' σ H Q → t σ H Q) : PT X e t' := ⟨fun pins s σ H Q I z => h.run pins s σ H Q I (k σ H Q z)⟩
theorem PW.weak {e : Expr} {t t' : TT} (h : PW X e t) (k : ∀ σ H Q, t' σ H Q → t σ H Q) : PW X e t' := ⟨fun wh pins s σ H Q I z => h.run wh pins s σ H Q I (k σ H Q z)⟩
theorem PA.weak {e : List Expr} {t t' : TA} (h : PA X e t) (k : ∀ σ H Q, t' σ H Q → t σ H Q) : PA X e t' := ⟨fun pos pins s σ H Q I z => h.run pos pins s σ H Q I (k σ H Q z)⟩
theorem PS.weak {e : Stmt} {t t' : TS} (h : PS X e t) (k : ∀ D σ H, t' D σ H → t D σ H) : PS X e t' := ⟨fun pins s σ H D I z => h.run pins s σ H D I (k D σ H z)⟩
theorem PSs.weak {e : List Stmt} {t t' : TS} (h : PSs X e t) (k : ∀ D σ H, t' D σ H → t D σ H) : PSs X e t' := ⟨fun pins s σ H D I z => h.run pins s σ H D I (k D σ H z)⟩
theorem PG.weak {e : Expr} {t t' : TG} (h : PG X e t) (k : ∀ v σ H Q, t' v σ H Q → t v σ H Q) : PG X e t' := ⟨fun pins s σ H v u Q I r z => h.run pins s σ H v u Q I r (k v σ H Q z)⟩
theorem PGs.weak {e : List Expr} {t t' : TGs} (h : PGs X e t) (k : ∀ v σ H Q, t' v σ H Q → t v σ H Q) : PGs X e t' := ⟨fun pins s σ H v u Q I r z => h.run pins s σ H v u Q I r (k v σ H Q z)⟩

/-! ### what is never reached -/
def dNo : DS := fun _ _ _ => False
def dNoE : DE := fun _ _ _ => False
theorem qs_no {st : Stmt} : QS X st dNo := ⟨fun _ _ _ _ _ _ h => by obtain ⟨_, _, _, _, _, _, z, _⟩ := h; exact z.elim⟩
theorem qss_no {b : List Stmt} : QSs X b dNo := ⟨fun _ _ _ _ _ _ h => by obtain ⟨_, _, _, _, _, _, z, _⟩ := h; exact z.elim⟩
theorem qe_no {e : Expr} : QE X e dNoE := ⟨fun _ _ _ _ _ _ h => by obtain ⟨_, _, _, _, _, _, z, _⟩ := h; exact z.elim⟩

/-! ### names, constants -/
def dVar (i : Nat) : DE := fun s G Q => ∃ d, s[i]? = some (some d) ∧ Q d G
def dC (d : D) : DE := fun _ G Q => Q d G
theorem lE_var {i : Nat} {σ : St} {H : Hp} {Q : VK} (h : lE (dVar i) σ H Q) : tVar i σ H Q := by
  obtain ⟨F, s, G, Q', hs, hg, ⟨d, e, q⟩, k⟩ := h
  obtain ⟨v, e2, i2⟩ := hs.2 i d e
  exact ⟨v, e2, k.fin hg i2 q⟩
theorem qe_var {i : Nat} {x : Str} {pos : Pos} (hN : X.N[i]? = some x) (hv : Vis X.env.scope x) (hd : (x == ("__debug__" : Str)) = false := by decide) (hcd : (x == ("__classdict__" : Str)) = false := by decide) : QE X (.Name x pos) (dVar i) :=
  PE.weak (pe_var hN hv hd hcd) fun _ _ _ h => lE_var h
theorem lE_c {d : D} {v : V} (hv : ∀ F H, Is F H d v) {σ : St} {H : Hp} {Q : VK} (h : lE (dC d) σ H Q) : tC v σ H Q := by
  obtain ⟨F, s, G, Q', hs, hg, q, k⟩ := h
  exact k.fin hg (hv F H) q
theorem qe_int {i : Int} {j pos} : QE X (.Constant (.int i) j pos) (dC (.int i)) := PE.weak pe_int fun _ _ _ h => lE_c (fun _ _ => is_int.mpr rfl) h
theorem qe_bl {b : Bool} {j pos} : QE X (.Constant (.bool b) j pos) (dC (.bl b)) := PE.weak pe_bl fun _ _ _ h => lE_c (fun _ _ => is_bl.mpr rfl) h
theorem qe_non {j pos} : QE X (.Constant .none j pos) (dC .non) := PE.weak pe_non fun _ _ _ h => lE_c (fun _ _ => is_non.mpr rfl) h
theorem qe_str {x : Str} {j pos} : QE X (.Constant (.str x) j pos) (dC (.str x)) := PE.weak pe_str fun _ _ _ h => lE_c (fun _ _ => is_str.mpr rfl) h
theorem qe_gint {x : Str} {pos : Pos} {i : Int} (hg : Gl X x) (hm : ∃ t, X.mg x = some (.int i t)) (hd : (x == ("__debug__" : Str)) = false := by decide) : QE X (.Name x pos) (dC (.int i)) := by
  obtain ⟨t, e⟩ := hm
  exact PE.weak (pe_glob (v := .int i) hg e ⟨t, rfl⟩ hd) fun _ _ _ h => lE_c (fun _ _ => is_int.mpr rfl) h

/-! ### binding -/
theorem lE_bind {t : DE} {te : TE} (ht : ∀ σ H Q, lE t σ H Q → te σ H Q) {σ : St} {s : DSt} {H : Hp} {F : Fz} {G : Gp} (hs : IsS F H s σ) (hg : Hg F H G) {Q : VK} {Q' : DK} (h : t s G Q') (k : ∀ v H' F' d G', Ext F H F' H' → IsS F' H' s σ → Hg F' H' G' → Is F' H' d v → Q' d G' → Q v H') : te σ H Q :=
  ht σ H Q ⟨F, s, G, Q', hs, hg, h, fun v H' F' d G' e g i q => k v H' F' d G' e (hs.mono e) g i q⟩
theorem lE_b {t : DE} {σ : St} {s : DSt} {H : Hp} {F : Fz} {G : Gp} (hs : IsS F H s σ) (hg : Hg F H G) {Q : VK} {Q' : DK} (h : t s G Q') (k : ∀ v H' F' d G', Ext F H F' H' → IsS F' H' s σ → Hg F' H' G' → Is F' H' d v → Q' d G' → Q v H') : lE t σ H Q :=
  ⟨F, s, G, Q', hs, hg, h, fun v H' F' d G' e g i q => k v H' F' d G' e (hs.mono e) g i q⟩
theorem lT_b {t : DT} {σ : St} {s : DSt} {H : Hp} {F : Fz} {G : Gp} (hs : IsS F H s σ) (hg : Hg F H G) {Q : Bool → Hp → Prop} {Q' : Bool → Gp → Prop} (h : t s G Q') (k : ∀ b H' F' G', Ext F H F' H' → IsS F' H' s σ → Hg F' H' G' → Q' b G' → Q b H') : lT t σ H Q :=
  ⟨F, s, G, Q', hs, hg, h, fun v H' F' G' e g q => k v H' F' G' e (hs.mono e) g q⟩
theorem lA_b {t : DA} {σ : St} {s : DSt} {H : Hp} {F : Fz} {G : Gp} (hs : IsS F H s σ) (hg : Hg F H G) {Q : List V → Hp → Prop} {Q' : List D → Gp → Prop} (h : t s G Q') (k : ∀ vs H' F' ds G', Ext F H F' H' → IsS F' H' s σ → Hg F' H' G' → IsL F' H' ds vs → Q' ds G' → Q vs H') : lA t σ H Q :=
  ⟨F, s, G, Q', hs, hg, h, fun v H' F' d G' e g i q => k v H' F' d G' e (hs.mono e) g i q⟩

/-! ### operators by values -/
abbrev DR2 := D → D → Gp → DK → Prop
def SR (r : R2) (r' : DR2) : Prop := ∀ F H G x y dx dy Q Q', Hg F H G → Is F H dx x → Is F H dy y → r' dx dy G Q' → Kc F H Q Q' → r x y H Q
def SU (r : V → Hp → VK → Prop) (r' : D → Gp → DK → Prop) : Prop := ∀ F H G x dx Q Q', Hg F H G → Is F H dx x → r' dx G Q' → Kc F H Q Q' → r x H Q
def SC (r : List V → Hp → VK → Prop) (r' : List D → Gp → DK → Prop) : Prop := ∀ F H G xs ds Q Q', Hg F H G → IsL F H ds xs → r' ds G Q' → Kc F H Q Q' → r xs H Q
def SM (r : V → List V → Hp → VK → Prop) (r' : D → List D → Gp → DK → Prop) : Prop := ∀ F H G x xs d ds Q Q', Hg F H G → Is F H d x → IsL F H ds xs → r' d ds G Q' → Kc F H Q Q' → r x xs H Q
def dOp (r : DR2) (ta tb : DE) : DE := fun s G Q => ta s G fun x G1 => tb s G1 fun y G2 => r x y G2 Q
def dUn (r : D → Gp → DK → Prop) (ta : DE) : DE := fun s G Q => ta s G fun x G1 => r x G1 Q
theorem lE_op {r : R2} {r' : DR2} (sr : SR r r') {ta tb : DE} {σ : St} {H : Hp} {Q : VK} (h : lE (dOp r' ta tb) σ H Q) : tOp r (lE ta) (lE tb) σ H Q := by
  obtain ⟨F, s, G, Q', hs, hg, h, k⟩ := h
  refine lE_b hs hg h fun x H1 F1 dx G1 e1 s1 g1 i1 h1 => ?_
  refine lE_b s1 g1 h1 fun y H2 F2 dy G2 e2 s2 g2 i2 h2 => ?_
  exact sr F2 H2 G2 x y dx dy Q Q' g2 (i1.mono e2) i2 h2 (k.step (e1.trans e2))
theorem qe_op {a b : Expr} {op : Operator} {pos : Pos} {r : R2} {r' : DR2} {ta tb : DE} (ho : OpR X (binaryOp op) r) (sr : SR r r') (ha : QE X a ta) (hb : QE X b tb) : QE X (.BinOp a op b pos) (dOp r' ta tb) :=
  PE.weak (pe_op ho ha hb) fun _ _ _ h => lE_op sr h
theorem qe_cmp {a b : Expr} {op : CmpOp} {pos : Pos} {r : R2} {r' : DR2} {ta tb : DE} (ho : OpR X (compareOp op) r) (sr : SR r r') (ha : QE X a ta) (hb : QE X b tb) (hm : behindInMarks op b = false := by rfl) : QE X (.Compare a [op] [b] pos) (dOp r' ta tb) :=
  PE.weak (pe_cmpR ho ha hb hm) fun _ _ _ h => lE_op sr h
theorem qe_un {a : Expr} {op : UnaryOp} {pos : Pos} {r : V → Hp → VK → Prop} {r' : D → Gp → DK → Prop} {ta : DE} (ho : UnR X (unaryOp op) r) (sr : SU r r') (ha : QE X a ta) : QE X (.UnaryOp op a pos) (dUn r' ta) :=
  PE.weak (pe_un ho ha) fun σ H Q h => by
    obtain ⟨F, s, G, Q', hs, hg, h, k⟩ := h
    exact lE_b hs hg h fun x H1 F1 dx G1 e1 s1 g1 i1 h1 => sr F1 H1 G1 x dx Q Q' g1 i1 h1 (k.step e1)
theorem qe_ix {a b : Expr} {pos : Pos} {r : R2} {r' : DR2} {ta tb : DE} (hr : IxR X r) (sr : SR r r') (ha : QE X a ta) (hb : QE X b tb) (hs : PlainIx b := by exact fun _ _ => rfl) : QE X (.Subscript a b pos) (dOp r' ta tb) :=
  PE.weak (pe_ix hr ha hb hs) fun _ _ _ h => lE_op sr h

/-- ints to a value -/
def eI (C : Int → Int → Prop) (g : Int → Int → D) : DR2 := fun x y G Q => ∃ i j, x = .int i ∧ y = .int j ∧ C i j ∧ Q (g i j) G
def eI0 (g : Int → Int → D) : DR2 := fun x y G Q => ∃ i j, x = .int i ∧ y = .int j ∧ Q (g i j) G
theorem sr_I {C : Int → Int → Prop} {g : Int → Int → V} {g' : Int → Int → D} (hg : ∀ i j F H, Is F H (g' i j) (g i j)) : SR (rI C g) (eI C g') := by
  rintro F H G x y dx dy Q Q' hG ix iy ⟨i, j, rfl, rfl, c, q⟩ k
  exact ⟨i, j, is_int.mp ix, is_int.mp iy, c, k.fin hG (hg i j F H) q⟩
theorem sr_I0 {g : Int → Int → V} {g' : Int → Int → D} (hg : ∀ i j F H, Is F H (g' i j) (g i j)) : SR (rI0 g) (eI0 g') := by
  rintro F H G x y dx dy Q Q' hG ix iy ⟨i, j, rfl, rfl, q⟩ k
  exact ⟨i, j, is_int.mp ix, is_int.mp iy, k.fin hG (hg i j F H) q⟩
def eAdd : DR2 := eI0 fun i j => .int (i + j)
def eSub : DR2 := eI0 fun i j => .int (i - j)
def eLt : DR2 := eI0 fun i j => .bl (decide (i < j))
def eLe : DR2 := eI0 fun i j => .bl (decide (i ≤ j))
def eGt : DR2 := eI0 fun i j => .bl (decide (j < i))
def eGe : DR2 := eI0 fun i j => .bl (decide (j ≤ i))
/-- == of numbers, of texts -/
def eqS : D → D → Option Bool
  | .int i, .int j => some (decide (i = j))
  | .str x, .str y => some (decide (x = y))
  | .bl x, .bl y => some (decide (x = y))
  | _, _ => none
def eEq : DR2 := fun x y G Q => ∃ b, eqS x y = some b ∧ Q (.bl b) G
def eNe : DR2 := fun x y G Q => ∃ b, eqS x y = some b ∧ Q (.bl (!b)) G
theorem eqS_ok {F : Fz} {H : Hp} {dx dy : D} {x y : V} {b : Bool} (ix : Is F H dx x) (iy : Is F H dy y) (e : eqS dx dy = some b) : scal x y = true ∧ decide (x = y) = b := by
  cases dx with
  | int i => cases dy with
    | int j =>
      rw [is_int.mp ix, is_int.mp iy]
      have e : some (decide (i = j)) = some b := e
      refine ⟨rfl, ?_⟩
      rw [← Option.some.inj e]
      by_cases h : i = j
      · rw [decide_eq_true h, decide_eq_true (by rw [h])]
      · rw [decide_eq_false h, decide_eq_false (fun z => h (V.int.inj z))]
    | _ => cases e
  | str i => cases dy with
    | str j =>
      rw [is_str.mp ix, is_str.mp iy]
      have e : some (decide (i = j)) = some b := e
      refine ⟨rfl, ?_⟩
      rw [← Option.some.inj e]
      by_cases h : i = j
      · rw [decide_eq_true h, decide_eq_true (by rw [h])]
      · rw [decide_eq_false h, decide_eq_false (fun z => h (V.str.inj z))]
    | _ => cases e
  | bl i => cases dy with
    | bl j =>
      rw [is_bl.mp ix, is_bl.mp iy]
      have e : some (decide (i = j)) = some b := e
      refine ⟨rfl, ?_⟩
      rw [← Option.some.inj e]
      by_cases h : i = j
      · rw [decide_eq_true h, decide_eq_true (by rw [h])]
      · rw [decide_eq_false h, decide_eq_false (fun z => h (V.bl.inj z))]
    | _ => cases e
  | _ => cases dy <;> cases e
theorem sr_eq : SR rEq eEq := by
  rintro F H G x y dx dy Q Q' hG ix iy ⟨b, e, q⟩ k
  obtain ⟨h1, h2⟩ := eqS_ok ix iy e
  exact ⟨h1, by rw [h2]; exact k.fin hG (is_bl.mpr rfl) q⟩
theorem sr_ne : SR rNe eNe := by
  rintro F H G x y dx dy Q Q' hG ix iy ⟨b, e, q⟩ k
  obtain ⟨h1, h2⟩ := eqS_ok ix iy e
  exact ⟨h1, by rw [h2]; exact k.fin hG (is_bl.mpr rfl) q⟩

/-! ### lists and tuples that are read -/
def lstG : Option GO → Option (List D)
  | some (.sm (.lst ds)) => some ds
  | _ => none
def lstOf (G : Gp) : D → Option (List D)
  | .lst ds => some ds
  | .ref p => lstG (G p)
  | _ => none
def tupOf : D → Option (List D)
  | .tup ds => some ds
  | _ => none
theorem lst_ref {G : Gp} {p : Addr} {ds : List D} (h : G p = some (.sm (.lst ds))) : lstOf G (.ref p) = some ds := by
  show lstG (G p) = some ds
  rw [h]
  rfl
theorem lst_own {G : Gp} {p : Addr} {ds : List D} (h : lstG (G p) = some ds) : G p = some (.sm (.lst ds)) := by
  cases q : G p with
  | none =>
    rw [q] at h
    cases h
  | some x =>
    rw [q] at h
    cases x with
    | cmp L => cases h
    | sm o =>
      cases o with
      | lst es =>
        cases (show some es = some ds from h)
        rfl
      | _ => cases h
theorem lstOf_ok {F : Fz} {H : Hp} {G : Gp} (hG : Hg F H G) {d : D} {v : V} {ds : List D} (i : Is F H d v) (e : lstOf G d = some ds) : ∃ a vs, v = .ref a ∧ H a = some (.lst vs) ∧ IsL F H ds vs := by
  cases d with
  | lst es =>
    obtain ⟨a, vs, h1, h2, h3, h4⟩ := is_lst.mp i
    cases (show some es = some ds from e)
    exact ⟨a, vs, h1, h3, h4⟩
  | ref p =>
    obtain ⟨z, hz, vs, rfl, hl⟩ := hG.get (lst_own e)
    exact ⟨p, vs, is_ref.mp i, hz, hl⟩
  | _ => cases e
theorem tupOf_ok {F : Fz} {H : Hp} {d : D} {v : V} {ds : List D} (i : Is F H d v) (e : tupOf d = some ds) : ∃ a vs, v = .ref a ∧ H a = some (.tup vs) ∧ IsL F H ds vs := by
  cases d with
  | tup es =>
    cases (show some es = some ds from e)
    exact is_tup.mp i
  | _ => cases e
/-- xs[i] -/
def eIxL : DR2 := fun x y G Q => ∃ ds i d, lstOf G x = some ds ∧ y = .int i ∧ atI ds i = some d ∧ Q d G
def eIxT : DR2 := fun x y G Q => ∃ ds i d, x = .tup ds ∧ y = .int i ∧ atI ds i = some d ∧ Q d G
theorem atI_rel {F : Fz} {H : Hp} {ds : List D} {vs : List V} {i : Int} {d : D} (h : IsL F H ds vs) (e : atI ds i = some d) : ∃ v, atI vs i = some v ∧ Is F H d v := by
  unfold atI at e ⊢
  rw [h.length]
  cases q : ixN ds.length i with
  | none =>
    rw [q] at e
    cases e
  | some j =>
    rw [q] at e
    exact h.get e
end
end Dg

namespace Dg
open PySem PySem.Spec L2
section
variable {X : Cx}
/-! ### tests -/
def dTest (t : DE) : DT := fun s G Q => t s G fun x G1 => ∃ b, x = .bl b ∧ Q b G1
theorem lT_test {t : DE} {te : TE} (ht : ∀ σ H Q, lE t σ H Q → te σ H Q) {σ : St} {H : Hp} {Q : Bool → Hp → Prop} (h : lT (dTest t) σ H Q) : tTest te σ H Q := by
  obtain ⟨F, s, G, Q', hs, hg, h, k⟩ := h
  refine lE_bind ht hs hg h fun v H1 F1 d G1 e1 s1 g1 i1 ⟨b, eb, q⟩ => ?_
  subst eb
  exact ⟨b, is_bl.mp i1, k b H1 F1 G1 e1 g1 q⟩
theorem qt_val {e : Expr} {t : DE} (h : QE X e t) (he : ∀ whole, isTrue e X.env whole = (do let v ← whole; standAt e.pos; holding [v] (truthy v)) := by intro _; rfl) : QT X e (dTest t) :=
  PT.weak (pt_val h he) fun σ H Q z => lT_test (fun _ _ _ z => z) z
theorem qt_cmp {a b : Expr} {op : CmpOp} {pos : Pos} {r : R2} {r' : DR2} {ta tb : DE} (ho : OpR X (compareOp op) r) (sr : SR r r') (ha : QE X a ta) (hb : QE X b tb) (hm : behindInMarks op b = false := by rfl) : QT X (.Compare a [op] [b] pos) (dTest (dOp r' ta tb)) :=
  PT.weak (pt_cmpR ho ha hb hm) fun σ H Q z => lT_test (fun _ _ _ z => lE_op sr z) z
def dChain (r r' : DR2) (ta tb tc : DE) : DE := fun s G Q => ta s G fun x G1 => tb s G1 fun y G2 => r x y G2 fun z G3 => ∃ k, z = .bl k ∧ (if k = true then tc s G3 fun w G4 => r' y w G4 Q else Q (.bl false) G3)
theorem lE_chain {r1 r2 : R2} {r1' r2' : DR2} (sr1 : SR r1 r1') (sr2 : SR r2 r2') {ta tb tc : DE} {σ : St} {H : Hp} {Q : VK} (h : lE (dChain r1' r2' ta tb tc) σ H Q) : tChain r1 r2 (lE ta) (lE tb) (lE tc) σ H Q := by
  obtain ⟨F, s, G, Q', hs, hg, h, k⟩ := h
  refine lE_b hs hg h fun x H1 F1 dx G1 e1 s1 g1 i1 h1 => ?_
  refine lE_b s1 g1 h1 fun y H2 F2 dy G2 e2 s2 g2 i2 h2 => ?_
  refine sr1 F2 H2 G2 x y dx dy _ _ g2 (i1.mono e2) i2 h2 fun v H3 F3 d G3 e3 g3 i3 ⟨b, eb, q⟩ => ?_
  subst eb
  refine ⟨b, is_bl.mp i3, ?_⟩
  cases b with
  | false =>
    have q : Q' (.bl false) G3 := q
    show Q (.bl false) H3
    exact k _ _ F3 _ G3 ((e1.trans e2).trans e3) g3 (is_bl.mpr rfl) q
  | true =>
    have q : tc s G3 fun w G4 => r2' dy w G4 Q' := q
    show lE tc σ H3 fun w' H4 => r2 y w' H4 Q
    refine lE_b (s2.mono e3) g3 q fun w H4 F4 dw G4 e4 s4 g4 i4 h4 => ?_
    exact sr2 F4 H4 G4 y w dy dw Q Q' g4 (i2.mono (e3.trans e4)) i4 h4 (k.step (((e1.trans e2).trans e3).trans e4))
theorem qe_chain {a b c : Expr} {op op' : CmpOp} {pos : Pos} {r r1 : R2} {r' r1' : DR2} {ta tb tc : DE} (ho : OpR X (compareOp op) r) (sr : SR r r') (ho' : OpR X (compareOp op') r1) (sr' : SR r1 r1') (ha : QE X a ta) (hb : QE X b tb) (hc : QE X c tc)
    (hm : lastMarks [op, op'] [b, c] = false := by with_unfolding_all rfl) : QE X (.Compare a [op, op'] [b, c] pos) (dChain r' r1' ta tb tc) :=
  PE.weak (pe_chain ho ho' ha hb hc hm) fun _ _ _ h => lE_chain sr sr' h
theorem qt_chain {a b c : Expr} {op op' : CmpOp} {pos : Pos} {r r1 : R2} {r' r1' : DR2} {ta tb tc : DE} (ho : OpR X (compareOp op) r) (sr : SR r r') (ho' : OpR X (compareOp op') r1) (sr' : SR r1 r1') (ha : QE X a ta) (hb : QE X b tb) (hc : QE X c tc)
    (hm : lastMarks [op, op'] [b, c] = false := by with_unfolding_all rfl) : QT X (.Compare a [op, op'] [b, c] pos) (dTest (dChain r' r1' ta tb tc)) :=
  PT.weak (pt_chain ho ho' ha hb hc hm) fun σ H Q z => lT_test (fun _ _ _ z => lE_chain sr sr' z) z
/-- is None -/
def isN : D → Bool
  | .non => true
  | _ => false
theorem isN_ok {F : Fz} {H : Hp} {d : D} {v : V} (i : Is F H d v) : decide (v = .non) = isN d := by
  cases d with
  | non => rw [is_non.mp i]; rfl
  | bl b => rw [is_bl.mp i]; rfl
  | int b => rw [is_int.mp i]; rfl
  | str b => rw [is_str.mp i]; rfl
  | ref b => rw [is_ref.mp i]; rfl
  | tup b => obtain ⟨a, vs, h1, _⟩ := is_tup.mp i; rw [h1]; rfl
  | lst b => obtain ⟨a, vs, h1, _⟩ := is_lst.mp i; rw [h1]; rfl
def dIsN (t : DE) : DE := fun s G Q => t s G fun x G1 => Q (.bl (isN x)) G1
def dNotN (t : DE) : DE := fun s G Q => t s G fun x G1 => Q (.bl (!isN x)) G1
theorem lE_isN {t : DE} {σ : St} {H : Hp} {Q : VK} (h : lE (dIsN t) σ H Q) : tIsN (lE t) σ H Q := by
  obtain ⟨F, s, G, Q', hs, hg, h, k⟩ := h
  refine lE_b hs hg h fun v H1 F1 d G1 e1 s1 g1 i1 q => ?_
  show Q (.bl (decide (v = .non))) H1
  rw [isN_ok i1]
  exact k _ _ F1 _ G1 e1 g1 (is_bl.mpr rfl) q
theorem lE_notN {t : DE} {σ : St} {H : Hp} {Q : VK} (h : lE (dNotN t) σ H Q) : tNotN (lE t) σ H Q := by
  obtain ⟨F, s, G, Q', hs, hg, h, k⟩ := h
  refine lE_b hs hg h fun v H1 F1 d G1 e1 s1 g1 i1 q => ?_
  show Q (.bl (!decide (v = .non))) H1
  rw [isN_ok i1]
  exact k _ _ F1 _ G1 e1 g1 (is_bl.mpr rfl) q
theorem tB_test {te : TE} {σ : St} {H : Hp} {Q : Bool → Hp → Prop} (h : tTest te σ H Q) : tB te σ H Q := h
theorem qe_isN {a : Expr} {j pos pos'} {t : DE} (h : QE X a t) : QE X (.Compare a [.Is] [.Constant .none j pos'] pos) (dIsN t) := PE.weak (pe_cmp (pc_isN h)) fun _ _ _ z => lE_isN z
theorem qe_notN {a : Expr} {j pos pos'} {t : DE} (h : QE X a t) : QE X (.Compare a [.IsNot] [.Constant .none j pos'] pos) (dNotN t) := PE.weak (pe_cmp (pc_notN h)) fun _ _ _ z => lE_notN z
theorem qt_isN {a : Expr} {j pos pos'} {t : DE} (h : QE X a t) : QT X (.Compare a [.Is] [.Constant .none j pos'] pos) (dTest (dIsN t)) := PT.weak (pt_cmp (pc_isN h)) fun _ _ _ z => tB_test (lT_test (fun _ _ _ z => lE_isN z) z)
theorem qt_notN {a : Expr} {j pos pos'} {t : DE} (h : QE X a t) : QT X (.Compare a [.IsNot] [.Constant .none j pos'] pos) (dTest (dNotN t)) := PT.weak (pt_cmp (pc_notN h)) fun _ _ _ z => tB_test (lT_test (fun _ _ _ z => lE_notN z) z)
/-- and, or, not -/
def dAnd (t u : DT) : DT := fun s G Q => t s G fun c G1 => if c = true then u s G1 Q else Q false G1
def dOr (t u : DT) : DT := fun s G Q => t s G fun c G1 => if c = true then Q true G1 else u s G1 Q
def dNot (t : DT) : DT := fun s G Q => t s G fun c G1 => Q (!c) G1
theorem lT_and {t u : DT} {σ : St} {H : Hp} {Q : Bool → Hp → Prop} (h : lT (dAnd t u) σ H Q) : tAnd (lT t) (lT u) σ H Q := by
  obtain ⟨F, s, G, Q', hs, hg, h, k⟩ := h
  refine lT_b hs hg h fun b H1 F1 G1 e1 s1 g1 q => ?_
  cases b with
  | true => exact lT_b s1 g1 (show u s G1 Q' from q) fun c H2 F2 G2 e2 s2 g2 q2 => k c H2 F2 G2 (e1.trans e2) g2 q2
  | false => exact k false H1 F1 G1 e1 g1 q
theorem lT_or {t u : DT} {σ : St} {H : Hp} {Q : Bool → Hp → Prop} (h : lT (dOr t u) σ H Q) : tOr (lT t) (lT u) σ H Q := by
  obtain ⟨F, s, G, Q', hs, hg, h, k⟩ := h
  refine lT_b hs hg h fun b H1 F1 G1 e1 s1 g1 q => ?_
  cases b with
  | false => exact lT_b s1 g1 (show u s G1 Q' from q) fun c H2 F2 G2 e2 s2 g2 q2 => k c H2 F2 G2 (e1.trans e2) g2 q2
  | true => exact k true H1 F1 G1 e1 g1 q
theorem lT_not {t : DT} {σ : St} {H : Hp} {Q : Bool → Hp → Prop} (h : lT (dNot t) σ H Q) : tNot (lT t) σ H Q := by
  obtain ⟨F, s, G, Q', hs, hg, h, k⟩ := h
  exact lT_b hs hg h fun b H1 F1 G1 e1 s1 g1 q => k (!b) H1 F1 G1 e1 g1 q
theorem qw_and1 {a : Expr} {pos : Pos} {t : DT} (h : QT X a t) : QW X (.BoolOp .And [a] pos) t := pw_and1 h
theorem qw_or1 {a : Expr} {pos : Pos} {t : DT} (h : QT X a t) : QW X (.BoolOp .Or [a] pos) t := pw_or1 h
theorem qw_and {a b : Expr} {rest : List Expr} {pos : Pos} {t u : DT} (ha : QT X a t) (hb : QW X (.BoolOp .And (b :: rest) pos) u) : QW X (.BoolOp .And (a :: b :: rest) pos) (dAnd t u) := PW.weak (pw_and ha hb) fun _ _ _ z => lT_and z
theorem qw_or {a b : Expr} {rest : List Expr} {pos : Pos} {t u : DT} (ha : QT X a t) (hb : QW X (.BoolOp .Or (b :: rest) pos) u) : QW X (.BoolOp .Or (a :: b :: rest) pos) (dOr t u) := PW.weak (pw_or ha hb) fun _ _ _ z => lT_or z
theorem qt_w {e : Expr} {t : DT} (h : QW X e t) : QT X e t := h.pt
theorem qt_not {a : Expr} {pos : Pos} {t : DT} (h : QT X a t) : QT X (.UnaryOp .Not a pos) (dNot t) := PT.weak (pt_not h) fun _ _ _ z => lT_not z
def dAndV (ta tb : DE) : DE := fun s G Q => ta s G fun x G1 => ∃ c, x = .bl c ∧ if c = true then tb s G1 Q else Q (.bl false) G1
def dOrV (ta tb : DE) : DE := fun s G Q => ta s G fun x G1 => ∃ c, x = .bl c ∧ if c = true then Q (.bl true) G1 else tb s G1 Q
def dNotV (ta : DE) : DE := fun s G Q => ta s G fun x G1 => ∃ c, x = .bl c ∧ Q (.bl (!c)) G1
theorem qe_one {op} {a : Expr} {pos : Pos} {t : DE} (h : QE X a t) : QE X (.BoolOp op [a] pos) t := pe_one h
theorem qe_and {a b : Expr} {rest : List Expr} {pos : Pos} {ta tb : DE} (ha : QE X a ta) (hb : QE X (.BoolOp .And (b :: rest) pos) tb) : QE X (.BoolOp .And (a :: b :: rest) pos) (dAndV ta tb) := PE.weak (pe_and ha hb) fun σ H Q h => by
  obtain ⟨F, s, G, Q', hs, hg, h, k⟩ := h
  refine lE_b hs hg h fun v H1 F1 d G1 e1 s1 g1 i1 ⟨c, ec, q⟩ => ?_
  subst ec
  refine ⟨c, is_bl.mp i1, ?_⟩
  cases c with
  | true => exact lE_b s1 g1 (show tb s G1 Q' from q) fun w H2 F2 d2 G2 e2 s2 g2 i2 q2 => k w H2 F2 d2 G2 (e1.trans e2) g2 i2 q2
  | false => exact k _ H1 F1 _ G1 e1 g1 (is_bl.mpr rfl) q
theorem qe_or {a b : Expr} {rest : List Expr} {pos : Pos} {ta tb : DE} (ha : QE X a ta) (hb : QE X (.BoolOp .Or (b :: rest) pos) tb) : QE X (.BoolOp .Or (a :: b :: rest) pos) (dOrV ta tb) := PE.weak (pe_or ha hb) fun σ H Q h => by
  obtain ⟨F, s, G, Q', hs, hg, h, k⟩ := h
  refine lE_b hs hg h fun v H1 F1 d G1 e1 s1 g1 i1 ⟨c, ec, q⟩ => ?_
  subst ec
  refine ⟨c, is_bl.mp i1, ?_⟩
  cases c with
  | false => exact lE_b s1 g1 (show tb s G1 Q' from q) fun w H2 F2 d2 G2 e2 s2 g2 i2 q2 => k w H2 F2 d2 G2 (e1.trans e2) g2 i2 q2
  | true => exact k _ H1 F1 _ G1 e1 g1 (is_bl.mpr rfl) q
theorem qe_not {a : Expr} {pos : Pos} {ta : DE} (ha : QE X a ta) : QE X (.UnaryOp .Not a pos) (dNotV ta) := PE.weak (pe_not ha) fun σ H Q h => by
  obtain ⟨F, s, G, Q', hs, hg, h, k⟩ := h
  refine lE_b hs hg h fun v H1 F1 d G1 e1 s1 g1 i1 ⟨c, ec, q⟩ => ?_
  subst ec
  exact ⟨c, is_bl.mp i1, k _ H1 F1 _ G1 e1 g1 (is_bl.mpr rfl) q⟩
def dIf (t : DT) (ta tb : DE) : DE := fun s G Q => t s G fun c G1 => if c = true then ta s G1 Q else tb s G1 Q
theorem qe_ifExp {c a b : Expr} {pos : Pos} {t : DT} {ta tb : DE} (hc : QT X c t) (ha : QE X a ta) (hb : QE X b tb) : QE X (.IfExp c a b pos) (dIf t ta tb) := PE.weak (pe_ifExp hc ha hb) fun σ H Q h => by
  obtain ⟨F, s, G, Q', hs, hg, h, k⟩ := h
  refine lT_b hs hg h fun c H1 F1 G1 e1 s1 g1 q => ?_
  cases c with
  | true => exact lE_b s1 g1 (show ta s G1 Q' from q) fun w H2 F2 d2 G2 e2 s2 g2 i2 q2 => k w H2 F2 d2 G2 (e1.trans e2) g2 i2 q2
  | false => exact lE_b s1 g1 (show tb s G1 Q' from q) fun w H2 F2 d2 G2 e2 s2 g2 i2 q2 => k w H2 F2 d2 G2 (e1.trans e2) g2 i2 q2

/-! ### arguments, displays -/
def dNil : DA := fun _ G Q => Q [] G
def dCons (ta : DE) (tr : DA) : DA := fun s G Q => ta s G fun x G1 => tr s G1 fun xs G2 => Q (x :: xs) G2
theorem qa_nil : QA X [] dNil := PA.weak pa_nil fun σ H Q h => by
  obtain ⟨F, s, G, Q', hs, hg, h, k⟩ := h
  exact k [] H F [] G (Ext.refl F H) hg IsL.nil h
theorem qa_cons {e : Expr} {es : List Expr} {te : DE} {t : DA} (ha : QE X e te) (hr : QA X es t) (hs : starEach (e :: es) X.env = (false, eval e X.env) :: starEach es X.env := by rfl) : QA X (e :: es) (dCons te t) := PA.weak (pa_cons ha hr hs) fun σ H Q h => by
  obtain ⟨F, s, G, Q', hs, hg, h, k⟩ := h
  refine lE_b hs hg h fun v H1 F1 d G1 e1 s1 g1 i1 h1 => ?_
  refine lA_b s1 g1 h1 fun vs H2 F2 ds G2 e2 s2 g2 i2 q2 => ?_
  exact k _ H2 F2 _ G2 (e1.trans e2) g2 (IsL.cons (i1.mono e2) i2) q2
theorem sz_ok {n : Nat} (h : n ≤ 100000) : n ≤ sizeLine := Nat.le_trans h (by decide)
theorem sz_lt {n : Nat} (h : n < 100000) : n < sizeLine := Nat.lt_of_lt_of_le h (by decide)
def dTup (t : DA) : DE := fun s G Q => t s G fun ds G1 => ds.length ≤ 100000 ∧ Q (.tup ds) G1
def dLst (t : DA) : DE := fun s G Q => t s G fun ds G1 => ds.length ≤ 100000 ∧ ∀ p, G1 p = none → Q (.ref p) (ud G1 p (.sm (.lst ds)))
theorem fin_tup {F : Fz} {H : Hp} {G : Gp} (hg : Hg F H G) {ds : List D} {vs : List V} (hl : IsL F H ds vs) {p : Addr} (hp : H p = none) : Ext F H F (upd H p (.tup vs)) ∧ Hg F (upd H p (.tup vs)) G ∧ Is F (upd H p (.tup vs)) (.tup ds) (.ref p) := by
  have ex : Ext F H F (upd H p (.tup vs)) := ext_new hg.fok hp
  exact ⟨ex, hg.newT hp, is_tup.mpr ⟨p, vs, rfl, upd_same, hl.mono ex⟩⟩
theorem fin_lst {F : Fz} {H : Hp} {G : Gp} (hg : Hg F H G) {ds : List D} {vs : List V} (hl : IsL F H ds vs) {p : Addr} (hp : H p = none) : Ext F H F (upd H p (.lst vs)) ∧ Hg F (upd H p (.lst vs)) (ud G p (.sm (.lst ds))) := by
  have ex : Ext F H F (upd H p (.lst vs)) := ext_new hg.fok hp
  exact ⟨ex, hg.new hp ⟨vs, rfl, hl.mono ex⟩⟩
/-- a new list comes -/
theorem Kc.newL {F : Fz} {H : Hp} {Q : VK} {Q' : DK} {G : Gp} (k : Kc F H Q Q') (hg : Hg F H G) {ds : List D} {vs : List V} (hl : IsL F H ds vs) (q : ∀ p, G p = none → Q' (.ref p) (ud G p (.sm (.lst ds)))) : ∀ p, H p = none → Q (.ref p) (upd H p (.lst vs)) := fun p hp => by
  obtain ⟨ex, g2⟩ := fin_lst hg hl hp
  exact k _ _ F _ _ ex g2 (is_ref.mpr rfl) (q p (hg.fresh hp))
theorem Kc.newT {F : Fz} {H : Hp} {Q : VK} {Q' : DK} {G : Gp} (k : Kc F H Q Q') (hg : Hg F H G) {ds : List D} {vs : List V} (hl : IsL F H ds vs) (q : Q' (.tup ds) G) : ∀ p, H p = none → Q (.ref p) (upd H p (.tup vs)) := fun p hp => by
  obtain ⟨ex, g2, i2⟩ := fin_tup hg hl hp
  exact k _ _ F _ _ ex g2 i2 q
theorem qe_tup {es : List Expr} {x1} {pos : Pos} {t : DA} (h : QA X es t) : QE X (.Tuple es x1 pos) (dTup t) := PE.weak (pe_tup h) fun σ H Q h => by
  obtain ⟨F, s, G, Q', hs, hg, h, k⟩ := h
  refine lA_b hs hg h fun vs H1 F1 ds G1 e1 s1 g1 i1 ⟨hz, q⟩ => ⟨by rw [i1.length]; exact sz_ok hz, (k.step e1).newT g1 i1 q⟩
theorem qe_lst {es : List Expr} {pos : Pos} {t : DA} (h : QA X es t) : QE X (.List es pos) (dLst t) := PE.weak (pe_lst h) fun σ H Q h => by
  obtain ⟨F, s, G, Q', hs, hg, h, k⟩ := h
  refine lA_b hs hg h fun vs H1 F1 ds G1 e1 s1 g1 i1 ⟨hz, q⟩ => ⟨by rw [i1.length]; exact sz_ok hz, (k.step e1).newL g1 i1 q⟩

/-! ### calls -/
abbrev DSp := List D → Gp → DK → Prop
def lSp (sp : DSp) : Sp := fun vs H Q _ => ∃ F ds G Q', IsL F H ds vs ∧ Hg F H G ∧ sp ds G Q' ∧ Kc F H Q Q'
def dCall (sp : DSp) (t : DA) : DE := fun s G Q => t s G fun ds G1 => sp ds G1 Q
theorem lE_call {sp : DSp} {t : DA} {E : XK} {σ : St} {H : Hp} {Q : VK} (h : lE (dCall sp t) σ H Q) : tCall (lSp sp) [] E (lA t) σ H Q := by
  obtain ⟨F, s, G, Q', hs, hg, h, k⟩ := h
  refine lA_b hs hg h fun vs H1 F1 ds G1 e1 s1 g1 i1 q => ?_
  show lSp sp (vs ++ []) H1 Q E
  rw [List.append_nil]
  exact ⟨F1, ds, G1, Q', i1, g1, q, k.step e1⟩
theorem qe_call {x : Str} {p pos : Pos} {e : Expr} {es : List Expr} {k : Nat} {f : Addr} {fd : FuncData} {ps : List Str} {sp : DSp} {t : DA} (F : FnOk X.prog X.w X.K X.mg X.base CX0 k f fd ps (lSp sp)) (hr : Room k X.A) (hg : Gl X x) (hm : X.mg x = some (.ref f)) (hk : PySem.W.keepIn X.K (.ref f) = true) (hb : Binds X.K fd ps [])
    (ha : QA X (e :: es) t) (hd : (x == ("__debug__" : Str)) = false := by decide) (hs : starEach (e :: es) X.env = (false, eval e X.env) :: starEach es X.env := by rfl) (hpl : (backTo pos (starEach es X.env)).any (·.1) = false := by rfl) :
    QE X (.Call (.Name x p) (e :: es) [] pos) (dCall sp t) := PE.weak (pe_call F hr hg hm hk hb .nil pass0 ha hd hs hpl) fun _ _ _ z => lE_call z
def dCB (r : List D → Gp → DK → Prop) (t : DA) : DE := fun s G Q => t s G fun ds G1 => r ds G1 Q
theorem lE_cb {r : List V → Hp → VK → Prop} {r' : List D → Gp → DK → Prop} (sc : SC r r') {t : DA} {σ : St} {H : Hp} {Q : VK} (h : lE (dCB r' t) σ H Q) : tCB r (lA t) σ H Q := by
  obtain ⟨F, s, G, Q', hs, hg, h, k⟩ := h
  exact lA_b hs hg h fun vs H1 F1 ds G1 e1 s1 g1 i1 q => sc F1 H1 G1 vs ds Q Q' g1 i1 q (k.step e1)
theorem qe_callB {x : Str} {p pos : Pos} {e : Expr} {es : List Expr} {id : String} {r : List V → Hp → VK → Prop} {r' : List D → Gp → DK → Prop} {t : DA} (hc : CallR X (.builtin id) r) (sc : SC r r') (hg : Gl X x) (hm : X.mg x = none) (hv : bootBuiltins x = some (.builtin id)) (ha : QA X (e :: es) t)
    (hn : x ≠ "__name__" := by decide) (hdb : (x == ("__debug__" : Str)) = false := by decide) (hs : starEach (e :: es) X.env = (false, eval e X.env) :: starEach es X.env := by rfl) (hpl : (backTo pos (starEach es X.env)).any (·.1) = false := by rfl) :
    QE X (.Call (.Name x p) (e :: es) [] pos) (dCB r' t) := PE.weak (pe_callB hc hg hm hv ha hn hdb hs hpl) fun _ _ _ z => lE_cb sc z
theorem qe_callTy {x : Str} {p pos : Pos} {e : Expr} {es : List Expr} {T : String} {r : List V → Hp → VK → Prop} {r' : List D → Gp → DK → Prop} {t : DA} (hc : CallR X (.type T) r) (sc : SC r r') (hg : Gl X x) (hm : X.mg x = none) (hv : bootBuiltins x = some (.type T)) (ha : QA X (e :: es) t)
    (hn : x ≠ "__name__" := by decide) (hdb : (x == ("__debug__" : Str)) = false := by decide) (hs : starEach (e :: es) X.env = (false, eval e X.env) :: starEach es X.env := by rfl) (hpl : (backTo pos (starEach es X.env)).any (·.1) = false := by rfl) :
    QE X (.Call (.Name x p) (e :: es) [] pos) (dCB r' t) := PE.weak (pe_callTy hc hg hm hv ha hn hdb hs hpl) fun _ _ _ z => lE_cb sc z

/-! ### shifts of the view -/
def VS (s : DSt) (G : Gp) (s' : DSt) (G' : Gp) : Prop := ∀ F H σ, IsS F H s σ → Hg F H G → ∃ F', Ext F H F' H ∧ IsS F' H s' σ ∧ Hg F' H G'
def VS1 (d : D) (G : Gp) (d' : D) (G' : Gp) : Prop := ∀ F H v, Is F H d v → Hg F H G → ∃ F', Ext F H F' H ∧ Is F' H d' v ∧ Hg F' H G'
theorem VS.refl {s : DSt} {G : Gp} : VS s G s G := fun F H _ i g => ⟨F, Ext.refl F H, i, g⟩
theorem VS1.refl {d : D} {G : Gp} : VS1 d G d G := fun F H _ i g => ⟨F, Ext.refl F H, i, g⟩
theorem VS.trans {s s1 s2 : DSt} {G G1 G2 : Gp} (a : VS s G s1 G1) (b : VS s1 G1 s2 G2) : VS s G s2 G2 := fun F H σ i g => by
  obtain ⟨F1, e1, i1, g1⟩ := a F H σ i g
  obtain ⟨F2, e2, i2, g2⟩ := b F1 H σ i1 g1
  exact ⟨F2, e1.trans e2, i2, g2⟩
theorem VS.sub {s : DSt} {G G' : Gp} (k : ∀ a x, G' a = some x → G a = some x) : VS s G s G' := fun F H _ i g => ⟨F, Ext.refl F H, i, g.mono k⟩
theorem VS1.sub {d : D} {G G' : Gp} (k : ∀ a x, G' a = some x → G a = some x) : VS1 d G d G' := fun F H _ i g => ⟨F, Ext.refl F H, i, g.mono k⟩
/-- what was new is forgotten -/
theorem sub_new {G G2 : Gp} {p : Addr} {g : GO} (h : G p = none) (k : ∀ a x, G2 a = some x → G a = some x) : ∀ a x, G2 a = some x → ud G p g a = some x := fun a x e => by
  have z := k a x e
  rw [ud_ne (fun q => by rw [q, h] at z; cases z)]
  exact z
theorem sub_refl {G : Gp} : ∀ a x, G a = some x → G a = some x := fun _ _ h => h
theorem VS1.frz {G : Gp} {p : Addr} {ds : List D} (h : G p = some (.sm (.lst ds))) : VS1 (.ref p) G (.lst ds) (er G p) := fun F H v i g => by
  obtain ⟨e1, g1, i1⟩ := g.freeze h
  rw [is_ref.mp i]
  exact ⟨_, e1, i1, g1⟩
/-- a list in a slot is given up -/
theorem VS.frz {s : DSt} {G : Gp} {p : Addr} {ds : List D} {j : Nat} (h : G p = some (.sm (.lst ds))) (hj : s[j]? = some (some (.ref p))) : VS s G (s.set j (some (.lst ds))) (er G p) := fun F H σ i g => by
  obtain ⟨e1, g1, i1⟩ := g.freeze h
  refine ⟨_, e1, ?_, g1⟩
  obtain ⟨v, hv, iv⟩ := i.2 j _ hj
  rw [is_ref.mp iv] at hv
  have z := (i.mono e1).set j i1
  have e : σ.set j (some (.ref p)) = σ := by
    refine List.ext_getElem? fun m => ?_
    by_cases hm : j = m
    · subst hm
      by_cases hl : j < σ.length
      · rw [List.getElem?_set_self hl, hv]
      · rw [List.getElem?_eq_none (by omega)] at hv
        cases hv
    · rw [List.getElem?_set_ne hm]
  rw [e] at z
  exact z
def vN (N : DSt → Gp → Prop) : DSt → Gp → Prop := fun s G => ∀ F H σ, IsS F H s σ → Hg F H G → ∃ F' s' G', Ext F H F' H ∧ IsS F' H s' σ ∧ Hg F' H G' ∧ N s' G'
def vR (Q : DK) : DK := fun d G => ∀ F H v, Is F H d v → Hg F H G → ∃ F' d' G', Ext F H F' H ∧ Is F' H d' v ∧ Hg F' H G' ∧ Q d' G'
theorem vN_vs {N : DSt → Gp → Prop} {s s' : DSt} {G G' : Gp} (v : VS s G s' G') (h : N s' G') : vN N s G := fun F H σ i g => by
  obtain ⟨F', e, i', g'⟩ := v F H σ i g
  exact ⟨F', s', G', e, i', g', h⟩
theorem vN0 {N : DSt → Gp → Prop} {s : DSt} {G : Gp} (h : N s G) : vN N s G := vN_vs VS.refl h
theorem vN_sub {N : DSt → Gp → Prop} {s : DSt} {G G' : Gp} (k : ∀ a x, G' a = some x → G a = some x) (h : N s G') : vN N s G := vN_vs (VS.sub k) h
theorem vR_vs {Q : DK} {d d' : D} {G G' : Gp} (v : VS1 d G d' G') (h : Q d' G') : vR Q d G := fun F H w i g => by
  obtain ⟨F', e, i', g'⟩ := v F H w i g
  exact ⟨F', d', G', e, i', g', h⟩
theorem vR0 {Q : DK} {d : D} {G : Gp} (h : Q d G) : vR Q d G := vR_vs VS1.refl h
theorem vR_sub {Q : DK} {d : D} {G G' : Gp} (k : ∀ a x, G' a = some x → G a = some x) (h : Q d G') : vR Q d G := vR_vs (VS1.sub k) h
/-- what holds is seen otherwise -/
theorem vR_to {Q : DK} {d : D} {G G' : Gp} (k : ∀ F H, Hg F H G → Hg F H G') (h : Q d G') : vR Q d G := fun F H w i g => ⟨F, d, G', Ext.refl F H, i, k F H g, h⟩
theorem vN_to {N : DSt → Gp → Prop} {s : DSt} {G G' : Gp} (k : ∀ F H, Hg F H G → Hg F H G') (h : N s G') : vN N s G := fun F H w i g => ⟨F, s, G', Ext.refl F H, i, k F H g, h⟩
theorem Ks.vN {F : Fz} {H : Hp} {Q : St → Hp → Prop} {Q' : DSt → Gp → Prop} (k : Ks F H Q Q') : Ks F H Q (vN Q') := fun σ' H' F' s' G' e i g q => by
  obtain ⟨F2, s2, G2, e2, i2, g2, q2⟩ := q F' H' σ' i g
  exact k σ' H' F2 s2 G2 (e.trans e2) i2 g2 q2
theorem Kc.vR {F : Fz} {H : Hp} {Q : VK} {Q' : DK} (k : Kc F H Q Q') : Kc F H Q (vR Q') := fun v H' F' d G' e g i q => by
  obtain ⟨F2, d2, G2, e2, i2, g2, q2⟩ := q F' H' v i g
  exact k v H' F2 d2 G2 (e.trans e2) g2 i2 q2

/-! ### statements -/
def dSeq (t u : DS) : DS := fun D s G => t { D with nx := vN (u D) } s G
def dNext : DS := fun D s G => D.nx s G
theorem lS_b {t : DS} {σ : St} {s : DSt} {H : Hp} {F : Fz} {G : Gp} (hs : IsS F H s σ) (hg : Hg F H G) {E : Ends} {E' : DEnds} (h : t E' s G) (k : Ek F H E E') : lS t E σ H := ⟨F, s, G, E', hs, hg, h, k⟩
theorem qss_nil : QSs X [] dNext := PSs.weak pss_nil fun D σ H h => by
  obtain ⟨F, s, G, D', hs, hg, h, k⟩ := h
  exact k.nx σ H F s G (Ext.refl F H) hs hg h
theorem qss_one {st : Stmt} {t : DS} (h : QS X st t) : QSs X [st] t := pss_one h
theorem qss_cons {st : Stmt} {rest : List Stmt} {t u : DS} (h1 : QS X st t) (h2 : QSs X rest u) : QSs X (st :: rest) (dSeq t u) := PSs.weak (pss_cons h1 h2) fun D σ H h => by
  obtain ⟨F, s, G, D', hs, hg, h, k⟩ := h
  refine lS_b hs hg h ⟨Ks.vN fun σ' H' F' s' G' e i g q => lS_b i g q (k.step e), k.rt, k.bk, k.ct⟩
theorem qs_pass {pos : Pos} : QS X (.Pass pos) dNext := PS.weak ps_pass fun D σ H h => by
  obtain ⟨F, s, G, D', hs, hg, h, k⟩ := h
  exact k.nx σ H F s G (Ext.refl F H) hs hg h
def dDrop (t : DE) : DS := fun D s G => t s G fun _ G1 => D.nx s G1
theorem qs_expr {e : Expr} {pos : Pos} {t : DE} (h : QE X e t) (hs : swapsWith e none pos.line X.env = pure false := by rfl) : QS X (.Expr e pos) (dDrop t) := PS.weak (ps_expr h hs) fun D σ H h => by
  obtain ⟨F, s, G, D', hs, hg, h, k⟩ := h
  exact lE_b hs hg h fun v H1 F1 d G1 e1 s1 g1 i1 q => k.nx σ H1 F1 s G1 e1 s1 g1 q
def dRet (t : DE) : DS := fun D s G => t s G D.rt
theorem qs_ret {e : Expr} {pos : Pos} {t : DE} (h : QE X e t) : QS X (.Return (some e) pos) (dRet t) := PS.weak (ps_ret h) fun D σ H h => by
  obtain ⟨F, s, G, D', hs, hg, h, k⟩ := h
  exact lE_b hs hg h fun v H1 F1 d G1 e1 s1 g1 i1 q => k.rt v H1 F1 d G1 e1 g1 i1 q
def dRetN : DS := fun D _ G => D.rt .non G
theorem qs_retN {pos : Pos} : QS X (.Return none pos) dRetN := PS.weak ps_retN fun D σ H h => by
  obtain ⟨F, s, G, D', hs, hg, h, k⟩ := h
  exact k.rt .non H F .non G (Ext.refl F H) hg (is_non.mpr rfl) h
def dIfS (c : DT) (t u : DS) : DS := fun D s G => c s G fun b G1 => if b = true then t D s G1 else u D s G1
theorem qs_if {c : Expr} {a b : List Stmt} {pos : Pos} {tc : DT} {t u : DS} (hc : QT X c tc) (ha : QSs X a t) (hb : QSs X b u) : QS X (.If c a b pos) (dIfS tc t u) := PS.weak (ps_if hc ha hb) fun D σ H h => by
  obtain ⟨F, s, G, D', hs, hg, h, k⟩ := h
  refine lT_b hs hg h fun b H1 F1 G1 e1 s1 g1 q => ?_
  cases b with
  | true => exact lS_b s1 g1 (show t D' s G1 from q) (k.step e1)
  | false => exact lS_b s1 g1 (show u D' s G1 from q) (k.step e1)
/-! ### targets -/
def hName (i : Nat) : DG := fun d s G Q => Q (s.set i (some d)) G
theorem lG_name {i : Nat} {v : V} {σ : St} {H : Hp} {Q : St → Hp → Prop} (h : lG (hName i) v σ H Q) : gName i v σ H Q := by
  obtain ⟨F, s, G, d, Q', hs, hg, hd, h, k⟩ := h
  exact k (σ.set i (some v)) H F _ G (Ext.refl F H) (hs.set i hd) hg h
theorem qg_name {i : Nat} {x : Str} {pos : Pos} (hN : X.N.Nodup) (hi : X.N[i]? = some x) (hx : Loc X.env.scope x) (hf : X.fn x = true ∨ X.env.scope.names.lookup x = some .local := by first | exact .inl rfl | exact .inr rfl | assumption) : QG X (.Name x pos) (hName i) :=
  PG.weak (pg_name hN hi hx hf) fun _ _ _ _ h => lG_name h
def hNil : DGs := fun ds s G Q => ds = [] ∧ Q s G
def hCons (t : DG) (u : DGs) : DGs := fun ds s G Q => ∃ d r, ds = d :: r ∧ t d s G fun s' G' => u r s' G' Q
theorem qgs_nil : QGs X [] hNil := PGs.weak pgs_nil fun vs σ H Q h => by
  obtain ⟨F, s, G, ds, Q', hs, hg, hd, ⟨e, h⟩, k⟩ := h
  subst e
  exact ⟨isL_nil.mp hd, k σ H F s G (Ext.refl F H) hs hg h⟩
theorem qgs_cons {e : Expr} {es : List Expr} {t : DG} {u : DGs} (h1 : QG X e t) (h2 : QGs X es u) (hs : (assignEach (e :: es) X.env).map (·.2) = assign e X.env :: (assignEach es X.env).map (·.2) := by rfl) : QGs X (e :: es) (hCons t u) :=
  PGs.weak (pgs_cons h1 h2 hs) fun vs σ H Q h => by
    obtain ⟨F, s, G, ds, Q', hs, hg, hd, ⟨d, r, e, h⟩, k⟩ := h
    subst e
    obtain ⟨v, rv, rfl, iv, ir⟩ := isL_cons.mp hd
    exact ⟨v, rv, rfl, F, s, G, d, _, hs, hg, iv, h, fun σ' H' F' s' G' e' i' g' q' => ⟨F', s', G', r, Q', i', g', ir.mono e', q', k.step e'⟩⟩
def hTup (n : Nat) (t : DGs) : DG := fun d s G Q => ∃ ds, d = .tup ds ∧ ds.length = n ∧ t ds s G Q
theorem qg_tup {es : List Expr} {kk : Nat} {pos : Pos} {t : DGs} {n : Nat} (hc : X.calm = true) (h : QGs X es t) (hn : (assignEach es X.env).length = n := by rfl) (hst : (assignEach es X.env).findIdx? (·.1) = none := by rfl) : QG X (.Tuple es kk pos) (hTup n t) :=
  PG.weak (pg_tup hc h hn hst) fun v σ H Q h => by
    obtain ⟨F, s, G, d, Q', hs, hg, hd, ⟨ds, e, hl, h⟩, k⟩ := h
    subst e
    obtain ⟨a, vs, e, ha, il⟩ := is_tup.mp hd
    exact ⟨a, vs, e, .inl (.inl ha), by rw [il.length]; exact hl, F, s, G, ds, Q', hs, hg, il, h, k⟩
abbrev DSet := D → D → D → Gp → (Gp → Prop) → Prop
def SSet (t : TSet) (t' : DSet) : Prop := ∀ F H G o i v d1 d2 d3 (Q : Hp → Prop) (Q' : Gp → Prop), Hg F H G → Is F H d1 o → Is F H d2 i → Is F H d3 v → t' d1 d2 d3 G Q' → (∀ H' F' G', Ext F H F' H' → Hg F' H' G' → Q' G' → Q H') → t o i v H Q
def hSub (to ti : DE) (t : DSet) : DG := fun d s G Q => to s G fun o G1 => ti s G1 fun i G2 => t o i d G2 fun G3 => Q s G3
theorem qg_sub {o i : Expr} {pos : Pos} {to ti : DE} {t : TSet} {t' : DSet} (ho : QE X o to) (hi : QE X i ti) (hs : PSet X t) (ss : SSet t t')
    (ha : ∀ v, assign (.Subscript o i pos) X.env v = (do
      let ov ← holding [v] (eval o X.env)
      let iv ← holding [v, ov] (eval i X.env)
      standAt pos
      holding [v, ov, iv] (setItem ov iv v)
      release [v, ov, iv] []) := by intro _; rfl) : QG X (.Subscript o i pos) (hSub to ti t') := PG.weak (pg_sub ho hi hs ha) fun v σ H Q h => by
  obtain ⟨F, s, G, d, Q', hs, hg, hd, h, k⟩ := h
  refine lE_b hs hg h fun o H1 F1 d1 G1 e1 s1 g1 i1 h1 => ?_
  refine lE_b s1 g1 h1 fun i H2 F2 d2 G2 e2 s2 g2 i2 h2 => ?_
  exact ss F2 H2 G2 o i v d1 d2 d _ _ g2 (i1.mono e2) i2 (hd.mono (e1.trans e2)) h2 fun H' F' G' e' g' q' => k σ H' F' s G' ((e1.trans e2).trans e') (s2.mono e') g' q'
def dAsg (te : DE) (g : DG) : DS := fun D s G => te s G fun x G1 => g x s G1 D.nx
theorem qs_asg {tg e : Expr} {pos : Pos} {te : DE} {g : DG} (he : QE X e te) (hg : QG X tg g) (hs : swapsWithSole [tg] e pos.line X.env = pure false := by rfl) (hw : swappedStores [tg] e X.env = pure none := by rfl)
    (h1 : (assignEach [tg] X.env).map (·.2) = [assign tg X.env] := by rfl) : QS X (.Assign [tg] e pos) (dAsg te g) := PS.weak (ps_asg he hg hs hw h1) fun D σ H h => by
  obtain ⟨F, s, G, D', hs, hg, h, k⟩ := h
  exact lE_b hs hg h fun x H1 F1 d G1 e1 s1 g1 i1 h1 => ⟨F1, s, G1, d, _, s1, g1, i1, h1, k.nx.step e1⟩
theorem qs_set {i : Nat} {x : Str} {e : Expr} {te : DE} {pos pos' : Pos} (hN : X.N.Nodup) (hi : X.N[i]? = some x) (hx : Loc X.env.scope x) (he : QE X e te) (hs : swapsWith e (some (.Name x pos')) pos.line X.env = pure false := by rfl) (hf : X.fn x = true ∨ X.env.scope.names.lookup x = some .local := by first | exact .inl rfl | exact .inr rfl | assumption) :
    QS X (.Assign [.Name x pos'] e pos) (dAsg te (hName i)) := PS.weak (ps_set hN hi hx he hs hf) fun D σ H h => by
  obtain ⟨F, s, G, D', hs, hg, h, k⟩ := h
  exact lE_b hs hg h fun x H1 F1 d G1 e1 s1 g1 i1 h1 => k.nx _ H1 F1 _ G1 e1 (s1.set i i1) g1 h1
end
end Dg

namespace Dg
open PySem PySem.Spec L2
section
variable {X : Cx}
/-! ### loops -/
/-- what is walked: n things, the i-th is d where item i d; Ok: what must stand meanwhile -/
structure WalkD (J : It) (n : Nat) (item : Nat → D → Prop) (Ok : Gp → Prop) (F1 : Fz) (H1 : Hp) : Prop where
  go : ∀ i F H G, i < n → Ext F1 H1 F H → Hg F H G → Ok G → J.go i H
  stop : ∀ F H G, Ext F1 H1 F H → Hg F H G → Ok G → J.stop n H
  yld : ∀ i F H G x H', i < n → Ext F1 H1 F H → Hg F H G → Ok G → J.yld i H x H' → H' = H ∧ ∃ d, item i d ∧ Is F H d x
def dForC (n : Nat) (item : Nat → D → Prop) (Ok : Gp → Prop) (g : DG) (tb : DS) : DS := fun E s G => ∃ Iv : Nat → DSt → Gp → Prop, Iv 0 s G ∧ (∀ i s G, i ≤ n → Iv i s G → Ok G) ∧
  (∀ i d s G, i < n → item i d → Iv i s G → g d s G fun s2 G2 => tb { E with nx := vN (Iv (i + 1)), ct := vN (Iv (i + 1)), bk := E.nx } s2 G2) ∧ ∀ s G, Iv n s G → E.nx s G
theorem forC_ok {J : It} {n : Nat} {item : Nat → D → Prop} {Ok : Gp → Prop} {F1 : Fz} {H1 : Hp} (w : WalkD J n item Ok F1 H1) {g : DG} {tb : DS} {E : Ends} {E' : DEnds} {s : DSt} {σ : St} {G : Gp} (hs : IsS F1 H1 s σ) (hg : Hg F1 H1 G) (h : dForC n item Ok g tb E' s G) (k : Ek F1 H1 E E') :
    ∃ W : Nat → Nat → St → Hp → Prop, (∃ m, W 0 m σ H1) ∧ ∀ i m σ H, W i m σ H →
      (J.stop i H ∧ E.nx σ H) ∨ (J.go i H ∧ ∃ N : St → Hp → Prop, (∀ σ' H', N σ' H' → ∃ m', m' < m ∧ W (i + 1) m' σ' H') ∧ ∀ x H', J.yld i H x H' → lG g x σ H' fun σ2 H2 => lS tb { E with nx := N, ct := N, bk := E.nx } σ2 H2) := by
  obtain ⟨Iv, h0, hok, hst, hd⟩ := h
  refine ⟨fun i m σ H => m = n - i ∧ i ≤ n ∧ ∃ F s G, Ext F1 H1 F H ∧ IsS F H s σ ∧ Hg F H G ∧ Iv i s G, ⟨n, by simp, Nat.zero_le _, F1, s, G, Ext.refl F1 H1, hs, hg, h0⟩, ?_⟩
  rintro i m σ' H' ⟨rfl, hi, F, s', G', ex, is', hg', iv⟩
  by_cases hlt : i < n
  · refine .inr ⟨w.go i F H' G' hlt ex hg' (hok i _ _ hi iv), fun σ2 H2 => ∃ F2 s2 G2, Ext F1 H1 F2 H2 ∧ IsS F2 H2 s2 σ2 ∧ Hg F2 H2 G2 ∧ Iv (i + 1) s2 G2, fun σ2 H2 z => ⟨n - (i + 1), by omega, rfl, hlt, z⟩, fun x H2 y => ?_⟩
    obtain ⟨rfl, d, hit, hx⟩ := w.yld i F H' G' x H2 hlt ex hg' (hok i _ _ hi iv) y
    refine ⟨F, s', G', d, _, is', hg', hx, hst i d s' G' hlt hit iv, fun σ3 H3 F3 s3 G3 e3 i3 g3 q3 => ?_⟩
    have nx : Ks F3 H3 (fun σ2 H2 => ∃ F2 s2 G2, Ext F1 H1 F2 H2 ∧ IsS F2 H2 s2 σ2 ∧ Hg F2 H2 G2 ∧ Iv (i + 1) s2 G2) (vN (Iv (i + 1))) :=
      Ks.vN fun σ4 H4 F4 s4 G4 e4 i4 g4 q4 => ⟨F4, s4, G4, (ex.trans e3).trans e4, i4, g4, q4⟩
    exact lS_b i3 g3 q3 ⟨nx, k.rt.step (ex.trans e3), k.nx.step (ex.trans e3), nx⟩
  · have e : i = n := by omega
    subst e
    exact .inl ⟨w.stop F H' G' ex hg' (hok i _ _ hi iv), k.nx σ' H' F s' G' ex is' hg' (hd s' G' iv)⟩
theorem walk_L {K : PySem.W.Frag} {F1 : Fz} {H1 : Hp} {x : D} {a : Addr} {ds : List D} (hx : Is F1 H1 x (.ref a)) : WalkD (Itl K a) ds.length (fun i d => ds[i]? = some d) (fun G => lstOf G x = some ds) F1 H1 := by
  have key : ∀ F H G, Ext F1 H1 F H → Hg F H G → lstOf G x = some ds → ∃ vs, H a = some (.lst vs) ∧ IsL F H ds vs := fun F H G ex hg hok => by
    obtain ⟨b, vs, e, h1, h2⟩ := lstOf_ok hg (hx.mono ex) hok
    cases e
    exact ⟨vs, h1, h2⟩
  refine ⟨fun i F H G hi ex hg hok => ?_, fun F H G ex hg hok => ?_, fun i F H G v H' hi ex hg hok y => ?_⟩
  · obtain ⟨vs, h1, h2⟩ := key F H G ex hg hok
    exact ⟨vs, vs[i]'(by rw [h2.length]; exact hi), .inl (.inl h1), List.getElem?_eq_getElem _⟩
  · obtain ⟨vs, h1, h2⟩ := key F H G ex hg hok
    exact ⟨vs, .inl (.inl h1), by rw [h2.length]; exact Nat.le_refl _⟩
  · obtain ⟨vs, h1, h2⟩ := key F H G ex hg hok
    obtain ⟨e, y⟩ := y
    obtain ⟨d, h3, h4⟩ := h2.getV (y vs (.inl (.inl h1)))
    exact ⟨e, d, h3, h4⟩
theorem walk_T {K : PySem.W.Frag} {F1 : Fz} {H1 : Hp} {a : Addr} {ds : List D} (hx : Is F1 H1 (.tup ds) (.ref a)) : WalkD (Itt K a) ds.length (fun i d => ds[i]? = some d) (fun _ => True) F1 H1 := by
  have key : ∀ F H, Ext F1 H1 F H → ∃ vs, H a = some (.tup vs) ∧ IsL F H ds vs := fun F H ex => by
    obtain ⟨b, vs, e, h1, h2⟩ := is_tup.mp (hx.mono ex)
    cases e
    exact ⟨vs, h1, h2⟩
  refine ⟨fun i F H G hi ex hg hok => ?_, fun F H G ex hg hok => ?_, fun i F H G v H' hi ex hg hok y => ?_⟩
  · obtain ⟨vs, h1, h2⟩ := key F H ex
    exact ⟨vs, vs[i]'(by rw [h2.length]; exact hi), .inl (.inl h1), List.getElem?_eq_getElem _⟩
  · obtain ⟨vs, h1, h2⟩ := key F H ex
    exact ⟨vs, .inl (.inl h1), by rw [h2.length]; exact Nat.le_refl _⟩
  · obtain ⟨vs, h1, h2⟩ := key F H ex
    obtain ⟨e, y⟩ := y
    obtain ⟨d, h3, h4⟩ := h2.getV (y vs (.inl (.inl h1)))
    exact ⟨e, d, h3, h4⟩
theorem walk_R {lo : Int} {n : Nat} {F1 : Fz} {H1 : Hp} : WalkD (Itr lo n) n (fun i d => d = .int (lo + (i : Int))) (fun _ => True) F1 H1 :=
  ⟨fun i F H G hi _ _ _ => hi, fun F H G _ _ _ => Nat.le_refl n, fun i F H G v H' hi ex hg hok y => ⟨y.1, _, rfl, is_int.mpr y.2⟩⟩
def dForL (tl : DE) (g : DG) (tb : DS) : DS := fun E s G => tl s G fun x G1 => ∃ ds, lstOf G1 x = some ds ∧ dForC ds.length (fun i d => ds[i]? = some d) (fun G => lstOf G x = some ds) g tb E s G1
def dForT (tl : DE) (g : DG) (tb : DS) : DS := fun E s G => tl s G fun x G1 => ∃ ds, x = .tup ds ∧ dForC ds.length (fun i d => ds[i]? = some d) (fun _ => True) g tb E s G1
def dForR1 (ta : DA) (g : DG) (tb : DS) : DS := fun E s G => ta s G fun ds G1 => ∃ j : Int, ds = [.int j] ∧ (-(2 ^ 62) ≤ j ∧ j < 2 ^ 62) ∧ dForC j.toNat (fun i d => d = .int (0 + (i : Int))) (fun _ => True) g tb E s G1
def dForR2 (ta : DA) (g : DG) (tb : DS) : DS := fun E s G => ta s G fun ds G1 => ∃ i j : Int, ds = [.int i, .int j] ∧ (-(2 ^ 62) ≤ i ∧ i < 2 ^ 62 ∧ -(2 ^ 62) ≤ j ∧ j < 2 ^ 62) ∧ dForC (j - i).toNat (fun k d => d = .int (i + (k : Int))) (fun _ => True) g tb E s G1
theorem qs_forL {tg l : Expr} {body : List Stmt} {pos : Pos} {tl : DE} {g : DG} {tb : DS} (hp : PassesOwn (model X.prog X.w) X.A X.env X.xe) (hc : X.calm = true) (hl : QE X l tl) (hg : QG X tg g) (hb : QSs X body tb) (hs : ∀ x, foldedSetIterable l X.env x = pure x := by intro _; rfl) :
    QS X (.For tg l body [] pos) (dForL tl g tb) := PS.weak (ps_for hp hc (pi_list hl) hg hb hs) fun E σ H h => by
  obtain ⟨F, s, G, E', hs, hg, h, k⟩ := h
  refine lE_b hs hg h fun v H1 F1 d G1 e1 s1 g1 i1 ⟨ds, hl, h1⟩ => ?_
  obtain ⟨a, vs, rfl, h2, h3⟩ := lstOf_ok g1 i1 hl
  exact ⟨a, rfl, ⟨vs, .inl (.inl h2)⟩, forC_ok (walk_L i1) s1 g1 h1 (k.step e1)⟩
theorem qs_forT {tg l : Expr} {body : List Stmt} {pos : Pos} {tl : DE} {g : DG} {tb : DS} (hp : PassesOwn (model X.prog X.w) X.A X.env X.xe) (hc : X.calm = true) (hl : QE X l tl) (hg : QG X tg g) (hb : QSs X body tb) (hs : ∀ x, foldedSetIterable l X.env x = pure x := by intro _; rfl) :
    QS X (.For tg l body [] pos) (dForT tl g tb) := PS.weak (ps_for hp hc (pi_tup hl) hg hb hs) fun E σ H h => by
  obtain ⟨F, s, G, E', hs, hg, h, k⟩ := h
  refine lE_b hs hg h fun v H1 F1 d G1 e1 s1 g1 i1 ⟨ds, hl, h1⟩ => ?_
  subst hl
  obtain ⟨a, vs, rfl, h2, h3⟩ := is_tup.mp i1
  exact ⟨a, rfl, ⟨vs, .inl (.inl h2)⟩, forC_ok (walk_T i1) s1 g1 h1 (k.step e1)⟩
theorem isL_one {F : Fz} {H : Hp} {d : D} {vs : List V} (h : IsL F H [d] vs) : ∃ v, vs = [v] ∧ Is F H d v := by
  obtain ⟨v, r, rfl, h1, h2⟩ := isL_cons.mp h
  rw [isL_nil.mp h2]
  exact ⟨v, rfl, h1⟩
theorem isL_two {F : Fz} {H : Hp} {d e : D} {vs : List V} (h : IsL F H [d, e] vs) : ∃ v w, vs = [v, w] ∧ Is F H d v ∧ Is F H e w := by
  obtain ⟨v, r, rfl, h1, h2⟩ := isL_cons.mp h
  obtain ⟨w, rfl, h3⟩ := isL_one h2
  exact ⟨v, w, rfl, h1, h3⟩
theorem qs_forR1 {tg a : Expr} {p pos2 : Pos} {body : List Stmt} {pos : Pos} {ta : DA} {g : DG} {tb : DS} (hp : PassesOwn (model X.prog X.w) X.A X.env X.xe) (hc : X.calm = true) (hgl : Gl X "range") (hm : X.mg "range" = none) (ha : QA X [a] ta) (hg : QG X tg g) (hb : QSs X body tb)
    (hs1 : starEach [a] X.env = [(false, eval a X.env)] := by rfl) (hs : ∀ x, foldedSetIterable (.Call (.Name "range" p) [a] [] pos2) X.env x = pure x := by intro _; rfl) :
    QS X (.For tg (.Call (.Name "range" p) [a] [] pos2) body [] pos) (dForR1 ta g tb) := PS.weak (ps_for hp hc (pi_range1 hgl hm ha hs1) hg hb hs) fun E σ H h => by
  obtain ⟨F, s, G, E', hs, hg, h, k⟩ := h
  refine lA_b hs hg h fun vs H1 F1 ds G1 e1 s1 g1 i1 ⟨j, hl, hj, h1⟩ => ?_
  subst hl
  obtain ⟨v, rfl, iv⟩ := isL_one i1
  exact ⟨j, by rw [is_int.mp iv], hj.1, hj.2, forC_ok walk_R s1 g1 h1 (k.step e1)⟩
theorem qs_forR2 {tg a b : Expr} {p pos2 : Pos} {body : List Stmt} {pos : Pos} {ta : DA} {g : DG} {tb : DS} (hp : PassesOwn (model X.prog X.w) X.A X.env X.xe) (hc : X.calm = true) (hgl : Gl X "range") (hm : X.mg "range" = none) (ha : QA X [a, b] ta) (hg : QG X tg g) (hb : QSs X body tb)
    (hs1 : starEach [a, b] X.env = [(false, eval a X.env), (false, eval b X.env)] := by rfl) (hs2 : starEach [b] X.env = [(false, eval b X.env)] := by rfl) (hs : ∀ x, foldedSetIterable (.Call (.Name "range" p) [a, b] [] pos2) X.env x = pure x := by intro _; rfl) :
    QS X (.For tg (.Call (.Name "range" p) [a, b] [] pos2) body [] pos) (dForR2 ta g tb) := PS.weak (ps_for hp hc (pi_range2 hgl hm ha hs1 hs2) hg hb hs) fun E σ H h => by
  obtain ⟨F, s, G, E', hs, hg, h, k⟩ := h
  refine lA_b hs hg h fun vs H1 F1 ds G1 e1 s1 g1 i1 ⟨i, j, hl, hj, h1⟩ => ?_
  subst hl
  obtain ⟨v, w, rfl, iv, iw⟩ := isL_two i1
  exact ⟨i, j, by rw [is_int.mp iv, is_int.mp iw], hj, forC_ok walk_R s1 g1 h1 (k.step e1)⟩
/-- while: W a word of a measure, the slots, the ghost heap -/
def dWhile (c : DT) (tb : DS) : DS := fun E s G => ∃ W : Nat → DSt → Gp → Prop, (∃ m, W m s G) ∧ ∀ m s G, W m s G →
  c s G fun b G1 => if b = true then tb { E with nx := vN (fun s' G' => ∃ m', m' < m ∧ W m' s' G'), ct := vN (fun s' G' => ∃ m', m' < m ∧ W m' s' G'), bk := E.nx } s G1 else E.nx s G1
theorem qs_while {c : Expr} {body : List Stmt} {pos : Pos} {tc : DT} {tb : DS} (hp : PassesOwn (model X.prog X.w) X.A X.env X.xe) (hc : QT X c tc) (hb : QSs X body tb) : QS X (.While c body [] pos) (dWhile tc tb) := PS.weak (ps_while hp hc hb) fun E σ H h => by
  obtain ⟨F, s, G, E', hs, hg, ⟨W, ⟨m0, h0⟩, hst⟩, k⟩ := h
  refine ⟨fun m σ1 H1 => ∃ F1 s1 G1, Ext F H F1 H1 ∧ IsS F1 H1 s1 σ1 ∧ Hg F1 H1 G1 ∧ W m s1 G1, ⟨m0, F, s, G, Ext.refl F H, hs, hg, h0⟩, ?_⟩
  rintro m σ1 H1 ⟨F1, s1, G1, e1, i1, g1, w1⟩
  refine lT_b i1 g1 (hst m s1 G1 w1) fun b H2 F2 G2 e2 i2 g2 q => ?_
  cases b with
  | true =>
    have nx : Ks F2 H2 (fun σ3 H3 => ∃ m', m' < m ∧ ∃ F3 s3 G3, Ext F H F3 H3 ∧ IsS F3 H3 s3 σ3 ∧ Hg F3 H3 G3 ∧ W m' s3 G3) (vN fun s' G' => ∃ m', m' < m ∧ W m' s' G') :=
      Ks.vN fun σ4 H4 F4 s4 G4 e4 i4 g4 ⟨m', hm', w4⟩ => ⟨m', hm', F4, s4, G4, (e1.trans e2).trans e4, i4, g4, w4⟩
    exact ⟨fun σ3 H3 => ∃ m', m' < m ∧ ∃ F3 s3 G3, Ext F H F3 H3 ∧ IsS F3 H3 s3 σ3 ∧ Hg F3 H3 G3 ∧ W m' s3 G3, fun σ3 H3 z => z, lS_b i2 g2 q ⟨nx, k.rt.step (e1.trans e2), k.nx.step (e1.trans e2), nx⟩⟩
  | false => exact k.nx σ1 H2 F2 s1 G2 (e1.trans e2) i2 g2 q

/-! ### comprehensions -/
theorem wipe_idem (σ : St) : ∀ (i : Nat) (o : Option V) (vs : List Nat), i ∈ vs → wipe (σ.set i o) vs = wipe σ vs
  | i, o, [], h => by cases h
  | i, o, v :: vs, h => by
    by_cases e : i ∈ vs
    · show (wipe (σ.set i o) vs).set v none = (wipe σ vs).set v none
      rw [wipe_idem σ i o vs e]
    · have hv : i = v := by
        rcases List.mem_cons.mp h with z | z
        · exact z
        · exact absurd z e
      subst hv
      show (wipe (σ.set i o) vs).set i none = (wipe σ vs).set i none
      have key : ∀ (ws : List Nat), (wipe (σ.set i o) ws).set i none = (wipe σ ws).set i none := fun ws => by
        induction ws with
        | nil => show (σ.set i o).set i none = σ.set i none; rw [List.set_set]
        | cons w ws ih =>
          show ((wipe (σ.set i o) ws).set w none).set i none = ((wipe σ ws).set w none).set i none
          by_cases hw : w = i
          · subst hw
            rw [List.set_set, List.set_set]
            exact ih
          · rw [List.set_comm _ _ hw, ih, List.set_comm _ _ (fun q => hw q.symm)]
      exact key vs
theorem wipe_wipe (σ : St) : ∀ (ws vs : List Nat), (∀ i ∈ ws, i ∈ vs) → wipe (wipe σ ws) vs = wipe σ vs
  | [], vs, _ => rfl
  | w :: ws, vs, h => by
    show wipe ((wipe σ ws).set w none) vs = wipe σ vs
    rw [wipe_idem _ w none vs (h w (List.mem_cons_self ..)), wipe_wipe σ ws vs fun i hi => h i (List.mem_cons_of_mem _ hi)]
/-- the slots behind (a, b, ..) = a tuple -/
def setN (s : DSt) : List Nat → List D → DSt
  | i :: is, d :: ds => setN (s.set i (some d)) is ds
  | _, _ => s
/-- a comprehension's target: a name; names in a tuple -/
inductive CT where
  | nm (i : Nat) | tp (is : List Nat)
def gNames : List Nat → TGs
  | [] => gNil
  | i :: is => gCons (gName i) (gNames is)
def CT.g (K : PySem.W.Frag) : CT → TG
  | .nm i => gName i
  | .tp is => gTup K is.length (gNames is)
def CT.put : CT → D → DSt → (DSt → Prop) → Prop
  | .nm i, d, s, Q => Q (s.set i (some d))
  | .tp is, d, s, Q => ∃ ds, d = .tup ds ∧ ds.length = is.length ∧ Q (setN s is ds)
def CT.sl : CT → List Nat
  | .nm i => [i]
  | .tp is => is
theorem gNames_ok {F : Fz} {H : Hp} {Q : St → Hp → Prop} : ∀ {is : List Nat} {ds : List D} {vs : List V} {s : DSt} {σ : St}, IsS F H s σ → IsL F H ds vs → ds.length = is.length → (∀ σ', IsS F H (setN s is ds) σ' → (∀ ws, (∀ i ∈ is, i ∈ ws) → wipe σ' ws = wipe σ ws) → Q σ' H) → gNames is vs σ H Q
  | [], ds, vs, s, σ, hs, hl, hn, q => by
    have e : ds = [] := List.length_eq_zero_iff.mp hn
    subst e
    exact ⟨isL_nil.mp hl, q σ hs fun _ _ => rfl⟩
  | i :: is, [], vs, s, σ, hs, hl, hn, q => by cases hn
  | i :: is, d :: ds, vs, s, σ, hs, hl, hn, q => by
    obtain ⟨v, r, rfl, hv, hr⟩ := isL_cons.mp hl
    refine ⟨v, r, rfl, ?_⟩
    show gNames is r (σ.set i (some v)) H Q
    refine gNames_ok (hs.set i hv) hr (Nat.succ.inj hn) fun σ' h1 h2 => q σ' h1 fun ws hw => ?_
    rw [h2 ws fun j hj => hw j (List.mem_cons_of_mem _ hj), wipe_idem σ i _ ws (hw i (List.mem_cons_self ..))]
theorem CT.ok {K : PySem.W.Frag} {F : Fz} {H : Hp} {c : CT} {d : D} {v : V} {s : DSt} {σ : St} {Q : St → Hp → Prop} {Q' : DSt → Prop} (hs : IsS F H s σ) (hd : Is F H d v) (h : c.put d s Q') (k : ∀ s' σ', IsS F H s' σ' → (∀ ws, (∀ i ∈ c.sl, i ∈ ws) → wipe σ' ws = wipe σ ws) → Q' s' → Q σ' H) : c.g K v σ H Q := by
  cases c with
  | nm i => exact k _ _ (hs.set i hd) (fun ws hw => wipe_idem σ i _ ws (hw i (List.mem_cons_self ..))) h
  | tp is =>
    obtain ⟨ds, rfl, hl, q⟩ := h
    obtain ⟨a, vs, rfl, ha, il⟩ := is_tup.mp hd
    exact ⟨a, vs, rfl, .inl (.inl ha), by rw [il.length]; exact hl, gNames_ok hs il hl fun σ' h1 h2 => k _ _ h1 h2 q⟩
def dYes : DT := fun _ G Q => Q true G
def vG (N : Gp → Prop) : Gp → Prop := fun G => ∀ F H, Hg F H G → ∃ F' G', Ext F H F' H ∧ Hg F' H G' ∧ N G'
theorem vG0 {N : Gp → Prop} {G : Gp} (h : N G) : vG N G := fun F H g => ⟨F, G, Ext.refl F H, g, h⟩
theorem vG_sub {N : Gp → Prop} {G G' : Gp} (k : ∀ a x, G' a = some x → G a = some x) (h : N G') : vG N G := fun F H g => ⟨F, G', Ext.refl F H, g.mono k, h⟩
theorem vG_to {N : Gp → Prop} {G G' : Gp} (k : ∀ F H, Hg F H G → Hg F H G') (h : N G') : vG N G := fun F H g => ⟨F, G', Ext.refl F H, k F H g, h⟩
def dLcC (n : Nat) (item : Nat → D → Prop) (Ok : Gp → Prop) (c : CT) (tt : DT) (te : DE) (vs : List Nat) : DE := fun s G Q => ∀ p, G p = none → ∃ Iv : Nat → Gp → Prop, Iv 0 (ud G p (.sm (.lst []))) ∧ (∀ i G, i ≤ n → Iv i G → Ok G) ∧
  (∀ i d G, i < n → item i d → Iv i G → c.put d (wipeD s vs) fun s2 => tt s2 G fun b G3 => if b = true then te s2 G3 fun y G4 => ∃ acc, G4 p = some (.sm (.lst acc)) ∧ acc.length < 100000 ∧ vG (Iv (i + 1)) (ud G4 p (.sm (.lst (acc ++ [y])))) else vG (Iv (i + 1)) G3) ∧
  ∀ G, Iv n G → Q (.ref p) G
theorem lcC_ok {K : PySem.W.Frag} {J : It} {n : Nat} {item : Nat → D → Prop} {Ok : Gp → Prop} {F1 : Fz} {H1 : Hp} (w : WalkD J n item Ok F1 H1) {c : CT} {tt : DT} {tt' : TT} (htt : ∀ σ H Q, lT tt σ H Q → tt' σ H Q) {te : DE} {vs : List Nat} (hcv : ∀ i ∈ c.sl, i ∈ vs) {s : DSt} {σ : St} {G : Gp} {Q : VK} {Q' : DK}
    (hs : IsS F1 H1 s σ) (hg : Hg F1 H1 G) (h : dLcC n item Ok c tt te vs s G Q') (k : Kc F1 H1 Q Q') :
    ∀ D, H1 D = none → ∃ W : Nat → Nat → Hp → Prop, (∃ m, W 0 m (upd H1 D (.lst []))) ∧ ∀ i m H, W i m H →
      (J.stop i H ∧ Q (.ref D) H) ∨ (J.go i H ∧ ∃ Nx : Hp → Prop, (∀ H', Nx H' → ∃ m', m' < m ∧ W (i + 1) m' H') ∧ ∀ x H', J.yld i H x H' → c.g K x (wipe σ vs) H' fun σ2 H2 => wipe σ2 vs = wipe σ vs ∧ tt' σ2 H2 fun b H3 =>
        if b = true then lE te σ2 H3 fun y H4 => ∃ acc, H4 D = some (.lst acc) ∧ acc.length < sizeLine ∧ Nx (upd H4 D (.lst (acc ++ [y]))) else Nx H3) := by
  intro p hp
  obtain ⟨Iv, h0, hok, hst, hd⟩ := h p (hg.fresh hp)
  obtain ⟨ex0, g0⟩ := fin_lst hg (IsL.nil (F := F1) (H := H1)) hp
  refine ⟨fun i m H => m = n - i ∧ i ≤ n ∧ ∃ F G, Ext F1 H1 F H ∧ Hg F H G ∧ Iv i G, ⟨n, by simp, Nat.zero_le _, F1, _, ex0, g0, h0⟩, ?_⟩
  rintro i m H ⟨rfl, hi, F, G, ex, hg, iv⟩
  by_cases hlt : i < n
  · refine .inr ⟨w.go i F H G hlt ex hg (hok i _ hi iv), fun H2 => ∃ F2 G2, Ext F1 H1 F2 H2 ∧ Hg F2 H2 G2 ∧ Iv (i + 1) G2, fun H2 z => ⟨n - (i + 1), by omega, rfl, hlt, z⟩, fun x H2 y => ?_⟩
    obtain ⟨rfl, d, hit, hx⟩ := w.yld i F H G x H2 hlt ex hg (hok i _ hi iv) y
    have fin : ∀ F3 H3 G3, Ext F1 H1 F3 H3 → Hg F3 H3 G3 → vG (Iv (i + 1)) G3 → ∃ F2 G2, Ext F1 H1 F2 H3 ∧ Hg F2 H3 G2 ∧ Iv (i + 1) G2 := fun F3 H3 G3 e3 g3 q => by
      obtain ⟨F4, G4, e4, g4, q4⟩ := q F3 H3 g3
      exact ⟨F4, G4, e3.trans e4, g4, q4⟩
    refine CT.ok (IsS.wipe (hs.mono ex) vs) hx (hst i d G hlt hit iv) fun s2 σ2 i2 hw q2 => ⟨by rw [hw vs hcv, wipe_wipe σ vs vs fun i hi => hi], htt _ _ _ (lT_b i2 hg q2 fun b H3 F3 G3 e3 i3 g3 q3 => ?_)⟩
    cases b with
    | false => exact fin F3 H3 G3 (ex.trans e3) g3 q3
    | true =>
      refine lE_b i3 g3 (show te s2 G3 _ from q3) fun y H4 F4 dy G4 e4 i4 g4 iy ⟨acc, ha, hz, q4⟩ => ?_
      obtain ⟨z, hz2, va, rfl, hl⟩ := g4.get ha
      have e5 := ext_own (z := .lst (va ++ [y])) g4 ha
      refine ⟨va, hz2, by rw [hl.length]; exact sz_lt hz, fin F4 _ _ (((ex.trans e3).trans e4).trans e5) (g4.set (o' := .lst (acc ++ [dy])) ha ⟨_, rfl, (hl.mono e5).append (IsL.cons (iy.mono e5) IsL.nil)⟩) q4⟩
  · have e : i = n := by omega
    subst e
    exact .inl ⟨w.stop F H G ex hg (hok i _ hi iv), k _ H F _ G ex hg (is_ref.mpr rfl) (hd G iv)⟩
def dLcL (tl : DE) (c : CT) (tt : DT) (te : DE) (vs : List Nat) : DE := fun s G Q => tl s G fun x G1 => ∃ ds, lstOf G1 x = some ds ∧ dLcC ds.length (fun i d => ds[i]? = some d) (fun G => lstOf G x = some ds) c tt te vs s G1 Q
def dLcT (tl : DE) (c : CT) (tt : DT) (te : DE) (vs : List Nat) : DE := fun s G Q => tl s G fun x G1 => ∃ ds, x = .tup ds ∧ dLcC ds.length (fun i d => ds[i]? = some d) (fun _ => True) c tt te vs s G1 Q
def dLcR1 (ta : DA) (c : CT) (tt : DT) (te : DE) (vs : List Nat) : DE := fun s G Q => ta s G fun ds G1 => ∃ j : Int, ds = [.int j] ∧ (-(2 ^ 62) ≤ j ∧ j < 2 ^ 62) ∧ dLcC j.toNat (fun i d => d = .int (0 + (i : Int))) (fun _ => True) c tt te vs s G1 Q
theorem lE_lcL {K : PySem.W.Frag} {tl : DE} {c : CT} {tt : DT} {tt' : TT} (htt : ∀ σ H Q, lT tt σ H Q → tt' σ H Q) {te : DE} {vs : List Nat} (hcv : ∀ i ∈ c.sl, i ∈ vs) {σ : St} {H : Hp} {Q : VK} (h : lE (dLcL tl c tt te vs) σ H Q) : tLc (iList K (lE tl)) (c.g K) tt' (lE te) vs σ H Q := by
  obtain ⟨F, s, G, Q', hs, hg, h, k⟩ := h
  refine lE_b hs hg h fun v H1 F1 d G1 e1 s1 g1 i1 ⟨ds, hl, h1⟩ => ?_
  obtain ⟨a, vs, rfl, h2, h3⟩ := lstOf_ok g1 i1 hl
  exact ⟨a, rfl, ⟨vs, .inl (.inl h2)⟩, lcC_ok (walk_L i1) htt hcv s1 g1 h1 (k.step e1)⟩
theorem lE_lcT {K : PySem.W.Frag} {tl : DE} {c : CT} {tt : DT} {tt' : TT} (htt : ∀ σ H Q, lT tt σ H Q → tt' σ H Q) {te : DE} {vs : List Nat} (hcv : ∀ i ∈ c.sl, i ∈ vs) {σ : St} {H : Hp} {Q : VK} (h : lE (dLcT tl c tt te vs) σ H Q) : tLc (iTup K (lE tl)) (c.g K) tt' (lE te) vs σ H Q := by
  obtain ⟨F, s, G, Q', hs, hg, h, k⟩ := h
  refine lE_b hs hg h fun v H1 F1 d G1 e1 s1 g1 i1 ⟨ds, hl, h1⟩ => ?_
  subst hl
  obtain ⟨a, vs, rfl, h2, h3⟩ := is_tup.mp i1
  exact ⟨a, rfl, ⟨vs, .inl (.inl h2)⟩, lcC_ok (walk_T i1) htt hcv s1 g1 h1 (k.step e1)⟩
theorem lE_lcR1 {K : PySem.W.Frag} {ta : DA} {c : CT} {tt : DT} {tt' : TT} (htt : ∀ σ H Q, lT tt σ H Q → tt' σ H Q) {te : DE} {vs : List Nat} (hcv : ∀ i ∈ c.sl, i ∈ vs) {σ : St} {H : Hp} {Q : VK} (h : lE (dLcR1 ta c tt te vs) σ H Q) : tLc (iRng1 (lA ta)) (c.g K) tt' (lE te) vs σ H Q := by
  obtain ⟨F, s, G, Q', hs, hg, h, k⟩ := h
  refine lA_b hs hg h fun v H1 F1 d G1 e1 s1 g1 i1 ⟨j, hl, hj, h1⟩ => ?_
  subst hl
  obtain ⟨v, rfl, iv⟩ := isL_one i1
  exact ⟨j, by rw [is_int.mp iv], hj.1, hj.2, lcC_ok walk_R htt hcv s1 g1 h1 (k.step e1)⟩
theorem yes_ok {σ : St} {H : Hp} {Q : Bool → Hp → Prop} (h : lT dYes σ H Q) : tYes σ H Q := by
  obtain ⟨F, s, G, Q', hs, hg, h, k⟩ := h
  exact k true H F G (Ext.refl F H) hg h
end
end Dg

namespace Dg
open PySem PySem.Spec L2
section
variable {X : Cx} {K : PySem.W.Frag}
/-! ### subscripts, slices -/
theorem sr_ixL : SR (rIxL K) eIxL := by
  rintro F H G x y dx dy Q Q' hG ix iy ⟨ds, i, d, hl, rfl, ha, q⟩ k
  obtain ⟨a, vs, rfl, h1, h2⟩ := lstOf_ok hG ix hl
  obtain ⟨v, h3, h4⟩ := atI_rel h2 ha
  exact ⟨a, vs, i, v, rfl, is_int.mp iy, .inl (.inl h1), h3, k.fin hG h4 q⟩
theorem sr_ixT : SR (rIxT K) eIxT := by
  rintro F H G x y dx dy Q Q' hG ix iy ⟨ds, i, d, rfl, rfl, ha, q⟩ k
  obtain ⟨a, vs, rfl, h1, h2⟩ := is_tup.mp ix
  obtain ⟨v, h3, h4⟩ := atI_rel h2 ha
  exact ⟨a, vs, i, v, rfl, is_int.mp iy, .inl (.inl h1), h3, k.fin hG h4 q⟩
/-- xs[i] = v -/
def eSetL : DSet := fun o i v G Q => ∃ p ds n j, o = .ref p ∧ i = .int n ∧ G p = some (.sm (.lst ds)) ∧ ixN ds.length n = some j ∧ Q (ud G p (.sm (.lst (ds.set j v))))
theorem ss_setL : SSet rSetL eSetL := by
  rintro F H G o i v d1 d2 d3 Q Q' hG i1 i2 i3 ⟨p, ds, n, j, rfl, rfl, hp, hj, q⟩ k
  obtain ⟨z, hz, vs, rfl, hl⟩ := hG.get hp
  have e5 := ext_own (z := .lst (vs.set j v)) hG hp
  exact ⟨p, vs, n, j, is_ref.mp i1, is_int.mp i2, hz, by rw [hl.length]; exact hj, k _ F _ e5 (hG.set (o' := .lst (ds.set j d3)) hp ⟨_, rfl, (hl.mono e5).set (i3.mono e5) j⟩) q⟩
abbrev DO := DSt → Gp → (Option Int → Gp → Prop) → Prop
def lO (t : DO) : TO := fun σ H Q => ∃ F s G Q', IsS F H s σ ∧ Hg F H G ∧ t s G Q' ∧ (∀ o H' F' G', Ext F H F' H' → Hg F' H' G' → Q' o G' → Q o H')
theorem PO.weak {e : Option Expr} {t t' : TO} (h : PO X e t) (k : ∀ σ H Q, t' σ H Q → t σ H Q) : PO X e t' := by
  obtain ⟨r⟩ := h
  exact ⟨fun pins s σ H Q I z => r pins s σ H Q I (k σ H Q z)⟩
def dNoP : DO := fun _ G Q => Q none G
def dPart (t : DE) : DO := fun s G Q => t s G fun x G1 => ∃ i, x = .int i ∧ Q (some i) G1
theorem qo_none : PO X none (lO dNoP) := PO.weak po_none fun σ H Q h => by
  obtain ⟨F, s, G, Q', hs, hg, h, k⟩ := h
  exact k none H F G (Ext.refl F H) hg h
theorem qo_some {e : Expr} {t : DE} (h : QE X e t) : PO X (some e) (lO (dPart t)) := PO.weak (po_some h) fun σ H Q h => by
  obtain ⟨F, s, G, Q', hs, hg, h, k⟩ := h
  refine lE_b hs hg h fun v H1 F1 d G1 e1 s1 g1 i1 ⟨i, ei, q⟩ => ?_
  subst ei
  exact ⟨i, is_int.mp i1, k _ H1 F1 G1 e1 g1 q⟩
def cutD (xs : List D) (lo hi : Option Int) : List D := (xs.drop (HT.sIx xs.length 0 lo)).take (HT.sIx xs.length xs.length hi - HT.sIx xs.length 0 lo)
theorem cut_rel {F : Fz} {H : Hp} {ds : List D} {vs : List V} (h : IsL F H ds vs) (lo hi : Option Int) : IsL F H (cutD ds lo hi) (cutV vs lo hi) := by
  unfold cutD cutV
  rw [h.length]
  exact (h.drop _).take _
theorem cut_whole {ds : List D} {lo hi : Option Int} (h : HT.sIx ds.length 0 lo = 0 ∧ HT.sIx ds.length ds.length hi = ds.length) : cutD ds lo hi = ds := by
  unfold cutD
  rw [h.1, h.2, Nat.sub_zero]
  show List.take ds.length ds = ds
  exact List.take_length
def dSl (r : D → Option Int → Option Int → Gp → DK → Prop) (te : DE) (tl th : DO) : DE := fun s G Q => te s G fun x G1 => tl s G1 fun l G2 => th s G2 fun u G3 => r x l u G3 Q
def SSl (r : V → Option Int → Option Int → Hp → VK → Prop) (r' : D → Option Int → Option Int → Gp → DK → Prop) : Prop := ∀ F H G x dx lo hi Q Q', Hg F H G → Is F H dx x → r' dx lo hi G Q' → Kc F H Q Q' → r x lo hi H Q
def eSlT : D → Option Int → Option Int → Gp → DK → Prop := fun x lo hi G Q => ∃ ds, x = .tup ds ∧ Q (.tup (cutD ds lo hi)) G
def eSlL : D → Option Int → Option Int → Gp → DK → Prop := fun x lo hi G Q => ∃ ds, lstOf G x = some ds ∧ ∀ p, G p = none → Q (.ref p) (ud G p (.sm (.lst (cutD ds lo hi))))
theorem ssl_T : SSl (rSlA K) eSlT := by
  rintro F H G x dx lo hi Q Q' hG ix ⟨ds, rfl, q⟩ k
  obtain ⟨a, vs, rfl, h1, h2⟩ := is_tup.mp ix
  refine ⟨a, vs, rfl, .inl (.inl h1), fun hw => ?_, fun _ => k.newT hG (cut_rel h2 lo hi) q⟩
  rw [h2.length] at hw
  rw [cut_whole hw] at q
  exact k.fin hG ix q
theorem ssl_L : SSl (rSlL K) eSlL := by
  rintro F H G x dx lo hi Q Q' hG ix ⟨ds, hl, q⟩ k
  obtain ⟨a, vs, rfl, h1, h2⟩ := lstOf_ok hG ix hl
  exact ⟨a, vs, rfl, .inl (.inl h1), k.newL hG (cut_rel h2 lo hi) q⟩
theorem qe_slice {e : Expr} {lo hi : Option Expr} {p2 pos : Pos} {r : V → Option Int → Option Int → Hp → VK → Prop} {r' : D → Option Int → Option Int → Gp → DK → Prop} {te : DE} {tl th : DO} (hr : SlR X r) (sr : SSl r r') (he : QE X e te) (hl : PO X lo (lO tl)) (hu : PO X hi (lO th)) :
    QE X (.Subscript e (.Slice lo hi none p2) pos) (dSl r' te tl th) := PE.weak (pe_slice hr he hl hu) fun σ H Q h => by
  obtain ⟨F, s, G, Q', hs, hg, h, k⟩ := h
  refine lE_b hs hg h fun v H1 F1 d G1 e1 s1 g1 i1 h1 => ?_
  refine ⟨F1, s, G1, _, s1, g1, h1, fun o H2 F2 G2 e2 g2 h2 => ?_⟩
  refine ⟨F2, s, G2, _, s1.mono e2, g2, h2, fun o2 H3 F3 G3 e3 g3 h3 => ?_⟩
  exact sr F3 H3 G3 v d o o2 Q Q' g3 (i1.mono (e2.trans e3)) h3 (k.step ((e1.trans e2).trans e3))
/-! ### + of lists, of tuples -/
def eCat : DR2 := fun x y G Q => ∃ ds es, lstOf G x = some ds ∧ lstOf G y = some es ∧ ds.length + es.length ≤ 100000 ∧ ∀ p, G p = none → Q (.ref p) (ud G p (.sm (.lst (ds ++ es))))
theorem sr_cat : SR rCat eCat := by
  rintro F H G x y dx dy Q Q' hG ix iy ⟨ds, es, hl, hl2, hz, q⟩ k
  obtain ⟨a, vs, rfl, h1, h2⟩ := lstOf_ok hG ix hl
  obtain ⟨b, us, rfl, h3, h4⟩ := lstOf_ok hG iy hl2
  exact ⟨a, b, vs, us, rfl, rfl, h1, h3, by rw [h2.length, h4.length]; exact sz_ok hz, k.newL hG (h2.append h4) q⟩
def eCatT : DR2 := fun x y G Q => ∃ ds es, x = .tup ds ∧ y = .tup es ∧ ds.length + es.length ≤ 100000 ∧ Q (.tup (ds ++ es)) G
theorem sr_catT : SR (rCatA K) eCatT := by
  rintro F H G x y dx dy Q Q' hG ix iy ⟨ds, es, rfl, rfl, hz, q⟩ k
  obtain ⟨a, vs, rfl, h1, h2⟩ := is_tup.mp ix
  obtain ⟨b, us, rfl, h3, h4⟩ := is_tup.mp iy
  refine ⟨a, b, vs, us, rfl, rfl, .inl (.inl h1), .inl (.inl h3), by rw [h2.length, h4.length]; exact sz_ok hz, fun e => ?_, fun _ e => ?_, fun _ _ => k.newT hG (h2.append h4) q⟩
  · have e2 : ds = [] := List.length_eq_zero_iff.mp (by rw [← h2.length, e]; rfl)
    rw [e2] at q
    exact k.fin hG iy q
  · have e2 : es = [] := List.length_eq_zero_iff.mp (by rw [← h4.length, e]; rfl)
    rw [e2, List.append_nil] at q
    exact k.fin hG ix q
/-! ### built-in functions -/
def cLen : List D → Gp → DK → Prop := fun xs G Q => ∃ x ds, xs = [x] ∧ (lstOf G x = some ds ∨ x = .tup ds) ∧ Q (.int (ds.length : Int)) G
theorem sc_len : SC (fun xs H Q => ∃ p ys, xs = [.ref p] ∧ (SqL K H p ys ∨ SqT K H p ys) ∧ Q (.int ys.length) H) cLen := by
  rintro F H G xs ds Q Q' hG il ⟨x, es, rfl, hx, q⟩ k
  obtain ⟨v, rfl, iv⟩ := isL_one il
  rcases hx with hx | rfl
  · obtain ⟨a, vs, rfl, h1, h2⟩ := lstOf_ok hG iv hx
    exact ⟨a, vs, rfl, .inl (.inl (.inl h1)), by rw [h2.length]; exact k.fin hG (is_int.mpr rfl) q⟩
  · obtain ⟨a, vs, rfl, h1, h2⟩ := is_tup.mp iv
    exact ⟨a, vs, rfl, .inr (.inl (.inl h1)), by rw [h2.length]; exact k.fin hG (is_int.mpr rfl) q⟩
def cList : List D → Gp → DK → Prop := fun xs G Q => ∃ x ds, xs = [x] ∧ (lstOf G x = some ds ∨ x = .tup ds) ∧ ∀ p, G p = none → Q (.ref p) (ud G p (.sm (.lst ds)))
theorem sc_list : SC (fun xs H Q => ∃ p ys, xs = [.ref p] ∧ (SqL K H p ys ∨ SqT K H p ys) ∧ ∀ l, H l = none → Q (.ref l) (upd H l (.lst ys))) cList := by
  rintro F H G xs ds Q Q' hG il ⟨x, es, rfl, hx, q⟩ k
  obtain ⟨v, rfl, iv⟩ := isL_one il
  rcases hx with hx | rfl
  · obtain ⟨a, vs, rfl, h1, h2⟩ := lstOf_ok hG iv hx
    exact ⟨a, vs, rfl, .inl (.inl (.inl h1)), k.newL hG h2 q⟩
  · obtain ⟨a, vs, rfl, h1, h2⟩ := is_tup.mp iv
    exact ⟨a, vs, rfl, .inr (.inl (.inl h1)), k.newL hG h2 q⟩
def cTuple : List D → Gp → DK → Prop := fun xs G Q => ∃ x ds, xs = [x] ∧ (lstOf G x = some ds ∨ x = .tup ds) ∧ Q (.tup ds) G
theorem sc_tuple : SC (fun xs H Q => ∃ p ys, xs = [.ref p] ∧ ((SqL K H p ys ∧ ∀ l, H l = none → Q (.ref l) (upd H l (.tup ys))) ∨ (SqT K H p ys ∧ Q (.ref p) H))) cTuple := by
  rintro F H G xs ds Q Q' hG il ⟨x, es, rfl, hx, q⟩ k
  obtain ⟨v, rfl, iv⟩ := isL_one il
  rcases hx with hx | rfl
  · obtain ⟨a, vs, rfl, h1, h2⟩ := lstOf_ok hG iv hx
    exact ⟨a, vs, rfl, .inl ⟨.inl (.inl h1), k.newT hG h2 q⟩⟩
  · obtain ⟨a, vs, rfl, h1, h2⟩ := is_tup.mp iv
    exact ⟨a, vs, rfl, .inr ⟨.inl (.inl h1), k.fin hG iv q⟩⟩
def cInt : List D → Gp → DK → Prop := fun xs G Q => (∃ i, xs = [.int i] ∧ Q (.int i) G) ∨ ∃ b : Bool, xs = [.bl b] ∧ Q (.int (if b then 1 else 0)) G
theorem sc_int : SC (fun xs H Q => (∃ i, xs = [.int i] ∧ Q (.int i) H) ∨ ∃ k, xs = [.bl k] ∧ Q (.int (if k then 1 else 0)) H) cInt := by
  rintro F H G xs ds Q Q' hG il (⟨i, rfl, q⟩ | ⟨b, rfl, q⟩) k
  · obtain ⟨v, rfl, iv⟩ := isL_one il
    exact .inl ⟨i, by rw [is_int.mp iv], k.fin hG (is_int.mpr rfl) q⟩
  · obtain ⟨v, rfl, iv⟩ := isL_one il
    exact .inr ⟨b, by rw [is_bl.mp iv], k.fin hG (is_int.mpr rfl) q⟩
def cMin2 : List D → Gp → DK → Prop := fun xs G Q => ∃ i j : Int, xs = [.int i, .int j] ∧ Q (.int (min i j)) G
def cMax2 : List D → Gp → DK → Prop := fun xs G Q => ∃ i j : Int, xs = [.int i, .int j] ∧ Q (.int (max i j)) G
theorem sc_min2 : SC (fun xs H Q => ∃ i j, xs = [.int i, .int j] ∧ Q (.int (if j < i then j else i)) H) cMin2 := by
  rintro F H G xs ds Q Q' hG il ⟨i, j, rfl, q⟩ k
  obtain ⟨v, w, rfl, iv, iw⟩ := isL_two il
  refine ⟨i, j, by rw [is_int.mp iv, is_int.mp iw], ?_⟩
  have e : (if j < i then j else i) = min i j := by
    split <;> omega
  rw [e]
  exact k.fin hG (is_int.mpr rfl) q
theorem sc_max2 : SC (fun xs H Q => ∃ i j, xs = [.int i, .int j] ∧ Q (.int (if j > i then j else i)) H) cMax2 := by
  rintro F H G xs ds Q Q' hG il ⟨i, j, rfl, q⟩ k
  obtain ⟨v, w, rfl, iv, iw⟩ := isL_two il
  refine ⟨i, j, by rw [is_int.mp iv, is_int.mp iw], ?_⟩
  have e : (if j > i then j else i) = max i j := by
    split <;> omega
  rw [e]
  exact k.fin hG (is_int.mpr rfl) q
/-! ### methods of built-in types -/
def tyD (T : String) (G : Gp) (x : D) : Prop := (T = "list" ∧ ∃ ds, lstOf G x = some ds) ∨ (T = "dict" ∧ ∃ p, x = .ref p ∧ ((∃ kvs, G p = some (.sm (.dK kvs))) ∨ ∃ kvs, G p = some (.sm (.dT kvs))))
theorem tyD_ok {F : Fz} {H : Hp} {G : Gp} {T : String} {x : D} {v : V} (hG : Hg F H G) (i : Is F H x v) (h : tyD T G x) : tyV K T v H := by
  rcases h with ⟨rfl, ds, hl⟩ | ⟨rfl, p, rfl, h⟩
  · obtain ⟨a, vs, rfl, h1, h2⟩ := lstOf_ok hG i hl
    exact .inl ⟨rfl, vs, .inl (.inl h1)⟩
  · rw [is_ref.mp i]
    refine .inr (.inr (.inl ⟨rfl, ?_⟩))
    rcases h with ⟨kvs, h⟩ | ⟨kvs, h⟩
    · obtain ⟨z, hz, vs, rfl, hl⟩ := hG.get h
      exact .inl ⟨vs, hz⟩
    · obtain ⟨z, hz, vs, rfl, hl⟩ := hG.get h
      exact .inr ⟨vs, hz⟩
def dBM (T : String) (r : D → List D → Gp → DK → Prop) (to : DE) (t : DA) : DE := fun s G Q => to s G fun x G1 => tyD T G1 x ∧ t s G1 fun xs G2 => r x xs G2 Q
def dBM0 (T : String) (r : D → List D → Gp → DK → Prop) (to : DE) : DE := fun s G Q => to s G fun x G1 => tyD T G1 x ∧ r x [] G1 Q
theorem qe_bm {o e : Expr} {es : List Expr} {name : Str} {apos cpos : Pos} {T id : String} {r : V → List V → Hp → VK → Prop} {r' : D → List D → Gp → DK → Prop} {to : DE} {t : DA} (pa : PlainAttrs T) (slot : Slot T name id) (hty : typeOf (.builtin id) = pure (.type "method_descriptor")) (hm : MtR X id r) (sm : SM r r') (ho : QE X o to) (ha : QA X (e :: es) t)
    (hbase : attributeBase o name X.env (eval o X.env) = eval o X.env := by rfl)
    (hfew : ((backTo cpos (starEach (e :: es) X.env)).all (fun x => !x.1) && (backToKw cpos (keywordEach [] X.env)).all (fun x => x.1.isSome)
      && decide ((e :: es).length + ([] : List Keyword).length + (if ([] : List Keyword).isEmpty then 0 else 1) < 30)) = true := by rfl)
    (hline : (apos.endLine == cpos.line) = true := by rfl) (hs : starEach (e :: es) X.env = (false, eval e X.env) :: starEach es X.env := by rfl) (hplain : (backTo cpos (starEach es X.env)).any (·.1) = false := by rfl) :
    QE X (.Call (.Attribute o name apos) (e :: es) [] cpos) (dBM T r' to t) := PE.weak (pe_bm pa slot hty hm ho ha hbase hfew hline hs hplain) fun σ H Q h => by
  obtain ⟨F, s, G, Q', hs, hg, h, k⟩ := h
  refine lE_b hs hg h fun v H1 F1 d G1 e1 s1 g1 i1 ⟨ty, h1⟩ => ⟨tyD_ok g1 i1 ty, ?_⟩
  exact lA_b s1 g1 h1 fun vs H2 F2 ds G2 e2 s2 g2 i2 q2 => sm F2 H2 G2 v vs d ds Q Q' g2 (i1.mono e2) i2 q2 (k.step (e1.trans e2))
theorem qe_bm0 {o : Expr} {name : Str} {apos cpos : Pos} {T id : String} {r : V → List V → Hp → VK → Prop} {r' : D → List D → Gp → DK → Prop} {to : DE} (pa : PlainAttrs T) (slot : Slot T name id) (hty : typeOf (.builtin id) = pure (.type "method_descriptor")) (hm : MtR X id r) (sm : SM r r') (ho : QE X o to)
    (hbase : attributeBase o name X.env (eval o X.env) = eval o X.env := by rfl) (hline : (apos.endLine == cpos.line) = true := by rfl) :
    QE X (.Call (.Attribute o name apos) [] [] cpos) (dBM0 T r' to) := PE.weak (pe_bm0 pa slot hty hm ho hbase hline) fun σ H Q h => by
  obtain ⟨F, s, G, Q', hs, hg, h, k⟩ := h
  exact lE_b hs hg h fun v H1 F1 d G1 e1 s1 g1 i1 ⟨ty, h1⟩ => ⟨tyD_ok g1 i1 ty, sm F1 H1 G1 v [] d [] Q Q' g1 i1 IsL.nil h1 (k.step e1)⟩
/-- an owned list is changed -/
theorem Kc.setL {F : Fz} {H : Hp} {Q : VK} {Q' : DK} {G : Gp} (k : Kc F H Q Q') (hg : Hg F H G) {p : Addr} {ds es : List D} {us : List V} (h : G p = some (.sm (.lst ds))) (hl : IsL F H es us) {d : D} {v : V} (hd : Is F H d v) (q : Q' d (ud G p (.sm (.lst es)))) : Q v (upd H p (.lst us)) := by
  have e5 := ext_own (z := .lst us) hg h
  exact k _ _ F _ _ e5 (hg.set (o' := .lst es) h ⟨_, rfl, hl.mono e5⟩) (hd.mono e5) q
def mAppend : D → List D → Gp → DK → Prop := fun x vs G Q => ∃ p ds y, x = .ref p ∧ vs = [y] ∧ G p = some (.sm (.lst ds)) ∧ ds.length < 100000 ∧ Q .non (ud G p (.sm (.lst (ds ++ [y]))))
theorem sm_append : SM rAppend mAppend := by
  rintro F H G x xs d es Q Q' hG ix il ⟨p, ds, y, rfl, rfl, hp, hz, q⟩ k
  obtain ⟨v, rfl, iv⟩ := isL_one il
  obtain ⟨z, hz2, vs, rfl, hl⟩ := hG.get hp
  exact ⟨p, vs, v, is_ref.mp ix, rfl, hz2, by rw [hl.length]; exact sz_lt hz, k.setL hG hp (hl.append (IsL.cons iv IsL.nil)) (is_non.mpr rfl) q⟩
def mExtend : D → List D → Gp → DK → Prop := fun x vs G Q => ∃ p ds y es, x = .ref p ∧ vs = [y] ∧ G p = some (.sm (.lst ds)) ∧ lstOf G y = some es ∧ ds.length + es.length ≤ 100000 ∧ Q .non (ud G p (.sm (.lst (ds ++ es))))
theorem sm_extend : SM rExtend mExtend := by
  rintro F H G x xs d es Q Q' hG ix il ⟨p, ds, y, fs, rfl, rfl, hp, hy, hz, q⟩ k
  obtain ⟨v, rfl, iv⟩ := isL_one il
  obtain ⟨z, hz2, vs, rfl, hl⟩ := hG.get hp
  obtain ⟨b, us, rfl, h3, h4⟩ := lstOf_ok hG iv hy
  exact ⟨p, b, vs, us, is_ref.mp ix, rfl, hz2, h3, by rw [hl.length, h4.length]; exact sz_ok hz, k.setL hG hp (hl.append h4) (is_non.mpr rfl) q⟩
theorem IsL.dropLast {F : Fz} {H : Hp} {ds : List D} {vs : List V} (h : IsL F H ds vs) : IsL F H ds.dropLast vs.dropLast := by
  rw [List.dropLast_eq_take, List.dropLast_eq_take, h.length]
  exact h.take _
def mPop : D → List D → Gp → DK → Prop := fun x vs G Q => ∃ p ds y, x = .ref p ∧ vs = [] ∧ G p = some (.sm (.lst ds)) ∧ ds[ds.length - 1]? = some y ∧ Q y (ud G p (.sm (.lst ds.dropLast)))
theorem sm_pop : SM rPop mPop := by
  rintro F H G x xs d es Q Q' hG ix il ⟨p, ds, y, rfl, rfl, hp, hy, q⟩ k
  obtain ⟨z, hz2, vs, rfl, hl⟩ := hG.get hp
  obtain ⟨v, h1, h2⟩ := hl.get hy
  exact ⟨p, vs, v, is_ref.mp ix, isL_nil.mp il, hz2, by rw [hl.length]; exact h1, k.setL hG hp hl.dropLast h2 q⟩
theorem IsL.erase {F : Fz} {H : Hp} : ∀ {ds : List D} {vs : List V} (i : Nat), IsL F H ds vs → IsL F H (ds.eraseIdx i) (vs.eraseIdx i)
  | [], vs, i, h => by
    rw [isL_nil.mp h]
    exact IsL.nil
  | x :: ds, vs, 0, h => by
    obtain ⟨w, r, rfl, h3, h4⟩ := isL_cons.mp h
    exact h4
  | x :: ds, vs, i + 1, h => by
    obtain ⟨w, r, rfl, h3, h4⟩ := isL_cons.mp h
    exact IsL.cons h3 (IsL.erase i h4)
/-- xs.pop(j), 0 ≤ j -/
def mPopAt : D → List D → Gp → DK → Prop := fun x vs G Q => ∃ p ds i y, x = .ref p ∧ vs = [.int i] ∧ G p = some (.sm (.lst ds)) ∧ 0 ≤ i ∧ i < 2 ^ 62 ∧ ds[i.toNat]? = some y ∧ Q y (ud G p (.sm (.lst (ds.eraseIdx i.toNat))))
theorem sm_popAt : SM rPopAt mPopAt := by
  rintro F H G x xs d es Q Q' hG ix il ⟨p, ds, i, y, rfl, rfl, hp, h0, h62, hy, q⟩ k
  obtain ⟨v, rfl, iv⟩ := isL_one il
  obtain ⟨z, hz2, vs, rfl, hl⟩ := hG.get hp
  obtain ⟨w, h1, h2⟩ := hl.get hy
  have hlt : i.toNat < vs.length := by
    rcases Nat.lt_or_ge i.toNat vs.length with z | z
    · exact z
    · rw [List.getElem?_eq_none z] at h1
      cases h1
  refine ⟨p, vs, i, i.toNat, w, is_ref.mp ix, by rw [is_int.mp iv], hz2, by omega, by omega, ?_, h1, k.setL hG hp (hl.erase _) h2 q⟩
  have e : ixN vs.length i = some i.toNat := by
    unfold ixN
    rw [if_pos h0, if_pos (by omega)]
  exact (ixN_seq e).1
def mInsert : D → List D → Gp → DK → Prop := fun x vs G Q => ∃ p ds i y, x = .ref p ∧ vs = [.int i, y] ∧ G p = some (.sm (.lst ds)) ∧ ds.length < 100000 ∧ 0 ≤ i ∧ i < 2 ^ 62 ∧ Q .non (ud G p (.sm (.lst (ds.take i.toNat ++ [y] ++ ds.drop i.toNat))))
theorem sm_insert : SM (fun x vs H Q => ∃ (l : Addr) (xs : List V) (i : Int) (y : V), x = .ref l ∧ vs = [.int i, y] ∧ H l = some (.lst xs) ∧ xs.length < sizeLine ∧ 0 ≤ i ∧ i < 2 ^ 63 ∧ Q .non (upd H l (.lst (xs.take i.toNat ++ [y] ++ xs.drop i.toNat)))) mInsert := by
  rintro F H G x xs d es Q Q' hG ix il ⟨p, ds, i, y, rfl, rfl, hp, hz, h0, h62, q⟩ k
  obtain ⟨v, w, rfl, iv, iw⟩ := isL_two il
  obtain ⟨z, hz2, vs, rfl, hl⟩ := hG.get hp
  exact ⟨p, vs, i, w, is_ref.mp ix, by rw [is_int.mp iv], hz2, by rw [hl.length]; exact sz_lt hz, h0, by omega, k.setL hG hp (((hl.take _).append (IsL.cons iw IsL.nil)).append (hl.drop _)) (is_non.mpr rfl) q⟩

/-! ### == and in of data -/
mutual
def toP : D → PyData
  | .non => .none
  | .bl b => .bool b
  | .int i => .int i
  | .str x => .str x
  | .tup ds => .tuple (toPs ds)
  | .lst ds => .list (toPs ds)
  | .ref _ => .none
def toPs : List D → List PyData
  | [] => []
  | d :: ds => toP d :: toPs ds
end
/-- no thing that may change within, no truth values; n deep -/
def pl : Nat → D → Bool
  | _ + 1, .non => true
  | _ + 1, .int _ => true
  | _ + 1, .str x => PyData.strOk x
  | n + 1, .tup ds => ds.all (pl n)
  | n + 1, .lst ds => ds.all (pl n)
  | _, _ => false
theorem toPs_map (ds : List D) : toPs ds = ds.map toP := by
  induction ds with
  | nil => rw [toPs]; rfl
  | cons d ds ih => rw [toPs, ih]; rfl
theorem dp_of {F : Fz} {H : Hp} : ∀ {n : Nat} {d : D} {v : V}, pl n d = true → Is F H d v → Dp K H v (toP d)
  | 0, d, v, h, i => by cases d <;> cases h
  | n + 1, d, v, h, i => by
    have all : ∀ {ds : List D} {vs : List V}, ds.all (pl n) = true → IsL F H ds vs → DpAll K H vs (toPs ds) := by
      intro ds
      induction ds with
      | nil =>
        intro vs _ il
        rw [isL_nil.mp il, toPs]
        exact .nil
      | cons d ds ih =>
        intro vs h il
        obtain ⟨v, r, rfl, iv, ir⟩ := isL_cons.mp il
        rw [List.all_cons, Bool.and_eq_true] at h
        rw [toPs]
        exact .cons (dp_of h.1 iv) (ih h.2 ir)
    cases d with
    | non => rw [is_non.mp i, toP]; exact .non
    | bl b => cases h
    | int j => rw [is_int.mp i, toP]; exact .int j
    | str x => rw [is_str.mp i, toP]; exact .str x
    | ref a => cases h
    | tup ds =>
      obtain ⟨a, vs, rfl, h1, h2⟩ := is_tup.mp i
      rw [toP]
      exact .tup (.inl (.inl h1)) (all h h2)
    | lst ds =>
      obtain ⟨a, vs, rfl, h0, h1, h2⟩ := is_lst.mp i
      rw [toP]
      exact .lst (.inl (.inl h1)) (all h h2)
theorem lay_of : ∀ {n : Nat} {d : D}, pl n d = true → (toP d).canLay0 = true ∧ (toP d).depth ≤ n
  | 0, d, h => by cases d <;> cases h
  | n + 1, d, h => by
    have all : ∀ {ds : List D}, ds.all (pl n) = true → PyData.canLayAll0 (toPs ds) = true ∧ PyData.depthAll (toPs ds) ≤ n := by
      intro ds
      induction ds with
      | nil =>
        intro _
        rw [toPs]
        exact ⟨rfl, Nat.zero_le _⟩
      | cons d ds ih =>
        intro h
        rw [List.all_cons, Bool.and_eq_true] at h
        rw [toPs]
        obtain ⟨h1, h2⟩ := lay_of h.1
        obtain ⟨h3, h4⟩ := ih h.2
        refine ⟨?_, ?_⟩
        · rw [PyData.canLayAll0, h1, h3]; rfl
        · rw [PyData.depthAll]; exact Nat.max_le.mpr ⟨h2, h4⟩
    cases d with
    | non => rw [toP]; exact ⟨rfl, Nat.zero_le _⟩
    | bl b => cases h
    | int j => rw [toP]; exact ⟨rfl, Nat.zero_le _⟩
    | str x => rw [toP]; exact ⟨h, Nat.zero_le _⟩
    | ref a => cases h
    | tup ds =>
      obtain ⟨h1, h2⟩ := all h
      rw [toP]
      exact ⟨by rw [PyData.canLay0]; exact h1, by rw [PyData.depth]; omega⟩
    | lst ds =>
      obtain ⟨h1, h2⟩ := all h
      rw [toP]
      exact ⟨by rw [PyData.canLay0]; exact h1, by rw [PyData.depth]; omega⟩
theorem shaped_of {n : Nat} {d : D} (h : pl n d = true) (hn : n ≤ 64) : SeqAt.shaped (toP d) = true := by
  obtain ⟨h1, h2⟩ := lay_of h
  unfold SeqAt.shaped
  rw [h1, decide_eq_true (Nat.le_trans h2 hn)]
  rfl
mutual
theorem eqv_iff : ∀ {n m : Nat} (d e : D), pl n d = true → pl m e = true → (PyData.eqv (toP d) (toP e) = true ↔ d = e)
  | 0, _, d, _, h, _ => by cases d <;> cases h
  | _, 0, _, e, _, h => by cases e <;> cases h
  | n + 1, m + 1, .non, e, h, h' => by cases e <;> first | (simp [toP, PyData.eqv]; done) | (cases h'; done)
  | n + 1, m + 1, .bl _, e, h, h' => by cases h
  | n + 1, m + 1, .ref _, e, h, h' => by cases h
  | n + 1, m + 1, .int i, e, h, h' => by cases e <;> first | (simp [toP, PyData.eqv]; done) | (cases h'; done)
  | n + 1, m + 1, .str i, e, h, h' => by cases e <;> first | (simp [toP, PyData.eqv]; done) | (cases h'; done)
  | n + 1, m + 1, .tup ds, e, h, h' => by
    cases e with
    | tup es =>
      rw [toP, toP, PyData.eqv, eqvs_iff ds es h h']
      exact ⟨fun z => by rw [z], fun z => D.tup.inj z⟩
    | _ => first | (simp [toP, PyData.eqv]; done) | (cases h'; done)
  | n + 1, m + 1, .lst ds, e, h, h' => by
    cases e with
    | lst es =>
      rw [toP, toP, PyData.eqv, eqvs_iff ds es h h']
      exact ⟨fun z => by rw [z], fun z => D.lst.inj z⟩
    | _ => first | (simp [toP, PyData.eqv]; done) | (cases h'; done)
theorem eqvs_iff : ∀ {n m : Nat} (ds es : List D), ds.all (pl n) = true → es.all (pl m) = true → (PyData.eqvAll (toPs ds) (toPs es) = true ↔ ds = es)
  | _, _, [], [], _, _ => by rw [toPs, PyData.eqvAll]; simp
  | _, _, [], e :: es, _, _ => by rw [toPs, toPs, PyData.eqvAll]; simp
  | _, _, d :: ds, [], _, _ => by rw [toPs, toPs, PyData.eqvAll]; simp
  | n, m, d :: ds, e :: es, h, h' => by
    rw [List.all_cons, Bool.and_eq_true] at h h'
    rw [toPs, toPs, PyData.eqvAll, Bool.and_eq_true, eqv_iff d e h.1 h'.1, eqvs_iff ds es h.2 h'.2, List.cons.injEq]
end
/-- the data of a value: a list's items, if it is owned -/
def valOf (G : Gp) : D → Option D
  | .ref p => (lstG (G p)).map D.lst
  | d => some d
theorem val_ref {G : Gp} {p : Addr} {ds : List D} (h : G p = some (.sm (.lst ds))) : valOf G (.ref p) = some (.lst ds) := by
  show (lstG (G p)).map D.lst = _
  rw [h]
  rfl
theorem dp_val {F : Fz} {H : Hp} {G : Gp} (hG : Hg F H G) {n : Nat} {x d : D} {v : V} (i : Is F H x v) (e : valOf G x = some d) (h : pl (n + 1) d = true) : Dp K H v (toP d) := by
  cases x with
  | ref p =>
    have e : (lstG (G p)).map D.lst = some d := e
    cases q : lstG (G p) with
    | none =>
      rw [q] at e
      cases e
    | some ds =>
      rw [q] at e
      cases (show some (D.lst ds) = some d from e)
      obtain ⟨z, hz, vs, rfl, hl⟩ := hG.get (lst_own q)
      rw [is_ref.mp i, toP]
      have all : ∀ {ds : List D} {vs : List V}, ds.all (pl n) = true → IsL F H ds vs → DpAll K H vs (toPs ds) := by
        intro ds
        induction ds with
        | nil =>
          intro vs _ il
          rw [isL_nil.mp il, toPs]
          exact .nil
        | cons d ds ih =>
          intro vs h il
          obtain ⟨v, r, rfl, iv, ir⟩ := isL_cons.mp il
          rw [List.all_cons, Bool.and_eq_true] at h
          rw [toPs]
          exact .cons (dp_of h.1 iv) (ih h.2 ir)
      exact .lst (.inl (.inl hz)) (all h hl)
  | non => cases (show some D.non = some d from e); exact dp_of h i
  | bl b => cases (show some (D.bl b) = some d from e); exact dp_of h i
  | int b => cases (show some (D.int b) = some d from e); exact dp_of h i
  | str b => cases (show some (D.str b) = some d from e); exact dp_of h i
  | tup b => cases (show some (D.tup b) = some d from e); exact dp_of h i
  | lst b => cases (show some (D.lst b) = some d from e); exact dp_of h i
def eEqD : DR2 := fun x y G Q => ∃ d e, valOf G x = some d ∧ valOf G y = some e ∧ pl 9 d = true ∧ pl 9 e = true ∧ ∀ b : Bool, (b = true ↔ d = e) → Q (.bl b) G
def eNeD : DR2 := fun x y G Q => ∃ d e, valOf G x = some d ∧ valOf G y = some e ∧ pl 9 d = true ∧ pl 9 e = true ∧ ∀ b : Bool, (b = true ↔ d = e) → Q (.bl (!b)) G
theorem sr_eqD : SR (rEqD K) eEqD := by
  rintro F H G x y dx dy Q Q' hG ix iy ⟨d, e, hd, he, pd, pe, q⟩ k
  exact ⟨_, _, dp_val hG ix hd pd, dp_val hG iy he pe, shaped_of pd (by decide), shaped_of pe (by decide), k.fin hG (is_bl.mpr rfl) (q _ (eqv_iff d e pd pe))⟩
theorem sr_neD : SR (rNeD K) eNeD := by
  rintro F H G x y dx dy Q Q' hG ix iy ⟨d, e, hd, he, pd, pe, q⟩ k
  exact ⟨_, _, dp_val hG ix hd pd, dp_val hG iy he pe, shaped_of pd (by decide), shaped_of pe (by decide), k.fin hG (is_bl.mpr rfl) (q _ (eqv_iff d e pd pe))⟩
theorem any_iff {d : D} (hd : pl 9 d = true) : ∀ {ds : List D}, ds.all (pl 8) = true → (((toPs ds).any fun z => PyData.eqv z (toP d)) = true ↔ d ∈ ds)
  | [], _ => by rw [toPs]; simp
  | e :: ds, h => by
    rw [List.all_cons, Bool.and_eq_true] at h
    rw [toPs, List.any_cons, Bool.or_eq_true, any_iff hd h.2, eqv_iff e d h.1 hd, List.mem_cons]
    exact ⟨fun z => z.elim (fun q => .inl q.symm) .inr, fun z => z.elim (fun q => .inl q.symm) .inr⟩
/-- x in a list, of data -/
def eInD (neg : Bool) : DR2 := fun x y G Q => ∃ ds, lstOf G y = some ds ∧ pl 9 x = true ∧ ds.all (pl 8) = true ∧ ∀ b : Bool, (b = true ↔ x ∈ ds) → Q (.bl (neg ^^ b)) G
theorem dp_lst {F : Fz} {H : Hp} {G : Gp} (hG : Hg F H G) {n : Nat} {x : D} {v : V} {ds : List D} (i : Is F H x v) (e : lstOf G x = some ds) (h : ds.all (pl n) = true) : Dp K H v (.list (toPs ds)) := by
  obtain ⟨a, vs, rfl, h1, h2⟩ := lstOf_ok hG i e
  have all : ∀ {ds : List D} {vs : List V}, ds.all (pl n) = true → IsL F H ds vs → DpAll K H vs (toPs ds) := by
    intro ds
    induction ds with
    | nil =>
      intro vs _ il
      rw [isL_nil.mp il, toPs]
      exact .nil
    | cons d ds ih =>
      intro vs h il
      obtain ⟨v, r, rfl, iv, ir⟩ := isL_cons.mp il
      rw [List.all_cons, Bool.and_eq_true] at h
      rw [toPs]
      exact .cons (dp_of h.1 iv) (ih h.2 ir)
  exact .lst (.inl (.inl h1)) (all h h2)
theorem sr_inD : SR (rInD K) (eInD false) := by
  rintro F H G x y dx dy Q Q' hG ix iy ⟨ds, hl, px, pds, q⟩ k
  have hp : pl 9 (.lst ds) = true := pds
  have z := shaped_of hp (by decide)
  rw [toP] at z
  refine ⟨_, _, dp_of px ix, dp_lst hG iy hl pds, shaped_of px (by decide), z, ?_⟩
  have q2 := q _ (any_iff px pds)
  rw [Bool.false_xor] at q2
  exact k.fin hG (is_bl.mpr rfl) q2
theorem sr_notInD : SR (rNotInD K) (eInD true) := by
  rintro F H G x y dx dy Q Q' hG ix iy ⟨ds, hl, px, pds, q⟩ k
  have hp : pl 9 (.lst ds) = true := pds
  have z := shaped_of hp (by decide)
  rw [toP] at z
  refine ⟨_, _, dp_of px ix, dp_lst hG iy hl pds, shaped_of px (by decide), z, ?_⟩
  have q2 := q _ (any_iff px pds)
  rw [Bool.true_xor] at q2
  exact k.fin hG (is_bl.mpr rfl) q2
/-- x in a tuple or a list of numbers, texts, None -/
def flD : D → Bool
  | .non => true
  | .int _ => true
  | .str _ => true
  | _ => false
def eInF (neg : Bool) : DR2 := fun x y G Q => ∃ ds, (lstOf G y = some ds ∨ y = .tup ds) ∧ flD x = true ∧ ds.all flD = true ∧ ∀ b : Bool, (b = true ↔ x ∈ ds) → Q (.bl (neg ^^ b)) G
theorem fl_ok {F : Fz} {H : Hp} {d : D} {v : V} (h : flD d = true) (i : Is F H d v) : flatV v = true := by
  cases d with
  | non => rw [is_non.mp i]; rfl
  | int j => rw [is_int.mp i]; rfl
  | str j => rw [is_str.mp i]; rfl
  | _ => cases h
theorem fl_all {F : Fz} {H : Hp} : ∀ {ds : List D} {vs : List V}, ds.all flD = true → IsL F H ds vs → vs.all flatV = true
  | [], vs, _, il => by rw [isL_nil.mp il]; rfl
  | d :: ds, vs, h, il => by
    obtain ⟨v, r, rfl, iv, ir⟩ := isL_cons.mp il
    rw [List.all_cons, Bool.and_eq_true] at h
    rw [List.all_cons, fl_ok h.1 iv, fl_all h.2 ir]
    rfl
theorem fl_eq {F : Fz} {H : Hp} {d e : D} {v w : V} (hd : flD d = true) (he : flD e = true) (i : Is F H d v) (j : Is F H e w) : (eqV v w = true ↔ e = d) := by
  cases d with
  | non =>
    rw [is_non.mp i]
    cases e with
    | non => rw [is_non.mp j]; simp [eqV]
    | int z => rw [is_int.mp j]; simp [eqV]
    | str z => rw [is_str.mp j]; simp [eqV]
    | _ => cases he
  | int a =>
    rw [is_int.mp i]
    cases e with
    | non => rw [is_non.mp j]; simp [eqV]
    | int z => rw [is_int.mp j]; simp [eqV]; exact ⟨fun q => q.symm, fun q => q.symm⟩
    | str z => rw [is_str.mp j]; simp [eqV]
    | _ => cases he
  | str a =>
    rw [is_str.mp i]
    cases e with
    | non => rw [is_non.mp j]; simp [eqV]
    | int z => rw [is_int.mp j]; simp [eqV]
    | str z => rw [is_str.mp j]; simp [eqV]; exact ⟨fun q => q.symm, fun q => q.symm⟩
    | _ => cases he
  | _ => cases hd
theorem fl_any {F : Fz} {H : Hp} {d : D} {v : V} (hd : flD d = true) (i : Is F H d v) : ∀ {ds : List D} {vs : List V}, ds.all flD = true → IsL F H ds vs → (inV v vs = true ↔ d ∈ ds)
  | [], vs, _, il => by rw [isL_nil.mp il]; simp [inV]
  | e :: ds, vs, h, il => by
    obtain ⟨w, r, rfl, iw, ir⟩ := isL_cons.mp il
    rw [List.all_cons, Bool.and_eq_true] at h
    have ih := fl_any hd i h.2 ir
    unfold inV at ih ⊢
    rw [List.any_cons, Bool.or_eq_true, ih, fl_eq h.1 hd iw i, List.mem_cons]
theorem sr_inF {neg : Bool} : SR (rIn K neg) (eInF neg) := by
  rintro F H G x y dx dy Q Q' hG ix iy ⟨ds, hy, px, pds, q⟩ k
  have fin : ∀ vs : List V, IsL F H ds vs → Q (.bl (if neg then !inV x vs else inV x vs)) H := fun vs il => by
    have q2 := q _ (fl_any px ix pds il)
    cases neg with
    | true => exact k.fin hG (is_bl.mpr rfl) (by rw [Bool.true_xor] at q2; exact q2)
    | false => exact k.fin hG (is_bl.mpr rfl) (by rw [Bool.false_xor] at q2; exact q2)
  rcases hy with hy | rfl
  · obtain ⟨a, vs, rfl, h1, h2⟩ := lstOf_ok hG iy hy
    exact ⟨a, vs, rfl, .inl (.inl (.inl h1)), fl_ok px ix, fl_all pds h2, fin vs h2⟩
  · obtain ⟨a, vs, rfl, h1, h2⟩ := is_tup.mp iy
    exact ⟨a, vs, rfl, .inr (.inl (.inl h1)), fl_ok px ix, fl_all pds h2, fin vs h2⟩
end
end Dg

namespace Dg
open PySem PySem.Spec L2
open PyProof.Rows (envOfC)
section
variable {X : Cx} {K : PySem.W.Frag}
/-! ### comprehensions, the rules -/
section
variable {elt tg l : Expr} {ifs : List Expr} {scope : Scope} {own : List (Str × Nat)} {pos : Pos} {tl : DE} {ta : DA} {c : CT} {tt : DT} {tt' : TT} {te : DE}
theorem qe_lcL (hc : X.calm = true) (hN : X.N.Nodup) (hl : QE X l tl) (ok : BlkOk X.N X.env.scope scope own)
    (hg : ∀ (s : Shared) (H : Hp) (C : Addr) (cl : List (Str × Addr)) (fp : List Addr), PG (X.blk s H scope (compEnvC scope cl C X.env) fp) tg (c.g X.K)) (ht : ∀ (s : Shared) (H : Hp) (C : Addr) (cl : List (Str × Addr)) (fp : List Addr), PTs (X.blk s H scope (compEnvC scope cl C X.env) fp) ifs tt')
    (htt : ∀ σ H Q, lT tt σ H Q → tt' σ H Q) (he : ∀ (s : Shared) (H : Hp) (C : Addr) (cl : List (Str × Addr)) (fp : List Addr), QE (X.blk s H scope (compEnvC scope cl C X.env) fp) elt te) (hcv : ∀ i ∈ c.sl, i ∈ own.map (·.2)) (hs : ∀ x, foldedSetIterable l X.env x = pure x := by intro _; rfl) :
    QE X (.ListComp elt [⟨tg, l, ifs, 0⟩] scope pos) (dLcL tl c tt te (own.map (·.2))) := PE.weak (pe_lc hc hN (pi_list hl) ok hg ht he hs) fun _ _ _ z => lE_lcL htt hcv z
theorem qe_lcT (hc : X.calm = true) (hN : X.N.Nodup) (hl : QE X l tl) (ok : BlkOk X.N X.env.scope scope own)
    (hg : ∀ (s : Shared) (H : Hp) (C : Addr) (cl : List (Str × Addr)) (fp : List Addr), PG (X.blk s H scope (compEnvC scope cl C X.env) fp) tg (c.g X.K)) (ht : ∀ (s : Shared) (H : Hp) (C : Addr) (cl : List (Str × Addr)) (fp : List Addr), PTs (X.blk s H scope (compEnvC scope cl C X.env) fp) ifs tt')
    (htt : ∀ σ H Q, lT tt σ H Q → tt' σ H Q) (he : ∀ (s : Shared) (H : Hp) (C : Addr) (cl : List (Str × Addr)) (fp : List Addr), QE (X.blk s H scope (compEnvC scope cl C X.env) fp) elt te) (hcv : ∀ i ∈ c.sl, i ∈ own.map (·.2)) (hs : ∀ x, foldedSetIterable l X.env x = pure x := by intro _; rfl) :
    QE X (.ListComp elt [⟨tg, l, ifs, 0⟩] scope pos) (dLcT tl c tt te (own.map (·.2))) := PE.weak (pe_lc hc hN (pi_tup hl) ok hg ht he hs) fun _ _ _ z => lE_lcT htt hcv z
theorem qe_lcR1 {a : Expr} {p pos2 : Pos} (hc : X.calm = true) (hN : X.N.Nodup) (hgl : Gl X "range") (hm : X.mg "range" = none) (ha : QA X [a] ta) (ok : BlkOk X.N X.env.scope scope own)
    (hg : ∀ (s : Shared) (H : Hp) (C : Addr) (cl : List (Str × Addr)) (fp : List Addr), PG (X.blk s H scope (compEnvC scope cl C X.env) fp) tg (c.g X.K)) (ht : ∀ (s : Shared) (H : Hp) (C : Addr) (cl : List (Str × Addr)) (fp : List Addr), PTs (X.blk s H scope (compEnvC scope cl C X.env) fp) ifs tt')
    (htt : ∀ σ H Q, lT tt σ H Q → tt' σ H Q) (he : ∀ (s : Shared) (H : Hp) (C : Addr) (cl : List (Str × Addr)) (fp : List Addr), QE (X.blk s H scope (compEnvC scope cl C X.env) fp) elt te) (hcv : ∀ i ∈ c.sl, i ∈ own.map (·.2))
    (hs1 : starEach [a] X.env = [(false, eval a X.env)] := by rfl) (hs : ∀ x, foldedSetIterable (.Call (.Name "range" p) [a] [] pos2) X.env x = pure x := by intro _; rfl) :
    QE X (.ListComp elt [⟨tg, .Call (.Name "range" p) [a] [] pos2, ifs, 0⟩] scope pos) (dLcR1 ta c tt te (own.map (·.2))) := PE.weak (pe_lc hc hN (pi_range1 hgl hm ha hs1) ok hg ht he hs) fun _ _ _ z => lE_lcR1 htt hcv z
theorem asg_b {t : DE} {te' : TE} (h1 : ∀ σ H Q, lE t σ H Q → te' σ H Q) {i : Nat} {E : Ends} {σ : St} {H : Hp} (h : lS (dAsg t (hName i)) E σ H) : tAsg te' (gName i) E σ H := by
  obtain ⟨F, s, G, E', hs, hg, h, k⟩ := h
  exact lE_bind h1 hs hg h fun v H1 F1 d G1 e1 s1 g1 i1 q => k.nx _ H1 F1 _ G1 e1 (s1.set i i1) g1 q
variable {i : Nat} {y : Str} {py spos : Pos}
theorem qs_setLcL (hc : X.calm = true) (hN : X.N.Nodup) (hy : X.N[i]? = some y) (hyl : X.env.scope.names.lookup y = some .local) (hsw : swapsWith (.ListComp elt [⟨tg, l, ifs, 0⟩] scope pos) (some (.Name y py)) spos.line X.env = pure true) (hl : QE X l tl) (ok : BlkOk X.N X.env.scope scope own)
    (hg : ∀ (s : Shared) (H : Hp) (C : Addr) (cl : List (Str × Addr)) (fp : List Addr), PG (X.blk s H scope (compEnvC scope cl C X.env) fp) tg (c.g X.K)) (ht : ∀ (s : Shared) (H : Hp) (C : Addr) (cl : List (Str × Addr)) (fp : List Addr), PTs (X.blk s H scope (compEnvC scope cl C X.env) fp) ifs tt')
    (htt : ∀ σ H Q, lT tt σ H Q → tt' σ H Q) (he : ∀ (s : Shared) (H : Hp) (C : Addr) (cl : List (Str × Addr)) (fp : List Addr), QE (X.blk s H scope (compEnvC scope cl C X.env) fp) elt te) (hcv : ∀ i ∈ c.sl, i ∈ own.map (·.2)) (hs : ∀ x, foldedSetIterable l X.env x = pure x := by intro _; rfl) :
    QS X (.Assign [.Name y py] (.ListComp elt [⟨tg, l, ifs, 0⟩] scope pos) spos) (dAsg (dLcL tl c tt te (own.map (·.2))) (hName i)) :=
  PS.weak (ps_setLc hc hN hy hyl hsw (pi_list hl) ok hg ht he hs) fun _ _ _ z => asg_b (fun _ _ _ z => lE_lcL htt hcv z) z
theorem qs_setLcT (hc : X.calm = true) (hN : X.N.Nodup) (hy : X.N[i]? = some y) (hyl : X.env.scope.names.lookup y = some .local) (hsw : swapsWith (.ListComp elt [⟨tg, l, ifs, 0⟩] scope pos) (some (.Name y py)) spos.line X.env = pure true) (hl : QE X l tl) (ok : BlkOk X.N X.env.scope scope own)
    (hg : ∀ (s : Shared) (H : Hp) (C : Addr) (cl : List (Str × Addr)) (fp : List Addr), PG (X.blk s H scope (compEnvC scope cl C X.env) fp) tg (c.g X.K)) (ht : ∀ (s : Shared) (H : Hp) (C : Addr) (cl : List (Str × Addr)) (fp : List Addr), PTs (X.blk s H scope (compEnvC scope cl C X.env) fp) ifs tt')
    (htt : ∀ σ H Q, lT tt σ H Q → tt' σ H Q) (he : ∀ (s : Shared) (H : Hp) (C : Addr) (cl : List (Str × Addr)) (fp : List Addr), QE (X.blk s H scope (compEnvC scope cl C X.env) fp) elt te) (hcv : ∀ i ∈ c.sl, i ∈ own.map (·.2)) (hs : ∀ x, foldedSetIterable l X.env x = pure x := by intro _; rfl) :
    QS X (.Assign [.Name y py] (.ListComp elt [⟨tg, l, ifs, 0⟩] scope pos) spos) (dAsg (dLcT tl c tt te (own.map (·.2))) (hName i)) :=
  PS.weak (ps_setLc hc hN hy hyl hsw (pi_tup hl) ok hg ht he hs) fun _ _ _ z => asg_b (fun _ _ _ z => lE_lcT htt hcv z) z
theorem qs_setLcR1 {a : Expr} {p pos2 : Pos} (hc : X.calm = true) (hN : X.N.Nodup) (hy : X.N[i]? = some y) (hyl : X.env.scope.names.lookup y = some .local) (hsw : swapsWith (.ListComp elt [⟨tg, .Call (.Name "range" p) [a] [] pos2, ifs, 0⟩] scope pos) (some (.Name y py)) spos.line X.env = pure true) (hgl : Gl X "range") (hm : X.mg "range" = none) (ha : QA X [a] ta) (ok : BlkOk X.N X.env.scope scope own)
    (hg : ∀ (s : Shared) (H : Hp) (C : Addr) (cl : List (Str × Addr)) (fp : List Addr), PG (X.blk s H scope (compEnvC scope cl C X.env) fp) tg (c.g X.K)) (ht : ∀ (s : Shared) (H : Hp) (C : Addr) (cl : List (Str × Addr)) (fp : List Addr), PTs (X.blk s H scope (compEnvC scope cl C X.env) fp) ifs tt')
    (htt : ∀ σ H Q, lT tt σ H Q → tt' σ H Q) (he : ∀ (s : Shared) (H : Hp) (C : Addr) (cl : List (Str × Addr)) (fp : List Addr), QE (X.blk s H scope (compEnvC scope cl C X.env) fp) elt te) (hcv : ∀ i ∈ c.sl, i ∈ own.map (·.2))
    (hs1 : starEach [a] X.env = [(false, eval a X.env)] := by rfl) (hs : ∀ x, foldedSetIterable (.Call (.Name "range" p) [a] [] pos2) X.env x = pure x := by intro _; rfl) :
    QS X (.Assign [.Name y py] (.ListComp elt [⟨tg, .Call (.Name "range" p) [a] [] pos2, ifs, 0⟩] scope pos) spos) (dAsg (dLcR1 ta c tt te (own.map (·.2))) (hName i)) :=
  PS.weak (ps_setLc hc hN hy hyl hsw (pi_range1 hgl hm ha hs1) ok hg ht he hs) fun _ _ _ z => asg_b (fun _ _ _ z => lE_lcR1 htt hcv z) z
end
theorem tt_id {t : DT} : ∀ σ H Q, lT t σ H Q → lT t σ H Q := fun _ _ _ z => z
theorem tt_yes : ∀ σ H Q, lT dYes σ H Q → tYes σ H Q := fun _ _ _ z => yes_ok z

/-! ### a def keeps its promise -/
def startD (N : List Str) (ds : List D) : DSt := ds.map some ++ List.replicate (N.length - ds.length) none
theorem start_ok {F : Fz} {H : Hp} {N : List Str} {ds : List D} {vs : List V} (h : IsL F H ds vs) : IsS F H (startD N ds) (L2.start N vs) := by
  unfold startD L2.start
  rw [h.length]
  refine ⟨by simp [h.length], fun i d e => ?_⟩
  by_cases hi : i < ds.length
  · rw [List.getElem?_append_left (by simpa using hi), List.getElem?_map] at e
    cases q : ds[i]? with
    | none =>
      rw [q] at e
      cases e
    | some x =>
      rw [q] at e
      cases e
      obtain ⟨v, h1, h2⟩ := h.get q
      exact ⟨v, by rw [List.getElem?_append_left (by simpa [h.length] using hi), List.getElem?_map, h1]; rfl, h2⟩
  · rw [List.getElem?_append_right (by simpa using hi), List.getElem?_replicate] at e
    split at e <;> cases e
theorem fn_ok {P : Program} {w : World} {K : PySem.W.Frag} {mg : Str → Option Value} {base : Heap} {x qual : Str} {params : Arguments} {body : List Stmt} {scope : Scope} {kws : List (Str × V)} {f : Addr} {fd : FuncData} {N ps : List Str} {k : Nat} {sp : DSp} {b : DS}
    (F : FunD K x qual params body scope [] kws f fd) (S : FnScope N ps scope) (len : ∀ ds G Q, sp ds G Q → ds.length = ps.length)
    (hb : ∀ (cdv : Value) (A : Around) (outer : List Env) (s : Shared) (H : Hp) (E : XK), Room k (A.deeper (envOfC qual scope s.heap.objs.size f cdv)) → QSs (cxOf CX0 P w K mg base N qual scope f cdv A outer s H E).nox body b)
    (hr : ∀ ds G Q, sp ds G Q → vN (b { nx := fun _ G' => vR Q .non G', rt := vR Q }) (startD N ds) G) : FnOk P w K mg base CX0 (k + 1) f fd ps (lSp sp) := by
  refine F.ok S (fun vs H Q E h => ?_) (fun cdv A outer s H vs Q E hroom h => ⟨_, PSs.nox (hb cdv A outer s H E hroom), ?_⟩)
  · obtain ⟨F1, ds, G, Q', hl, hg, h, k⟩ := h
    rw [hl.length]
    exact len ds G Q' h
  · obtain ⟨F1, ds, G, Q', hl, hg, h, k⟩ := h
    obtain ⟨F2, s2, G2, e2, i2, g2, h2⟩ := hr ds G Q' h F1 H _ (start_ok hl) hg
    have k2 := k.step e2
    exact lS_b i2 g2 h2 ⟨fun σ' H' F' s' G' e i g q => k2.vR _ H' F' _ G' e g (is_non.mpr rfl) q, k2.vR, fun _ _ _ _ _ _ _ _ q => q.elim, fun _ _ _ _ _ _ _ _ q => q.elim⟩

/-! ### isinstance -/
def tyN (G : Gp) : D → Option String
  | .non => some "NoneType"
  | .bl _ => some "bool"
  | .int _ => some "int"
  | .str _ => some "str"
  | .tup _ => some "tuple"
  | .lst _ => some "list"
  | .ref p => (match lstG (G p) with
    | some _ => some "list"
    | none => none)
theorem ty_ref {G : Gp} {p : Addr} {ds : List D} (h : G p = some (.sm (.lst ds))) : tyN G (.ref p) = some "list" := by
  show (match lstG (G p) with | some _ => some "list" | none => none) = _
  rw [h]
  rfl
theorem tyN_ok {F : Fz} {H : Hp} {G : Gp} (hG : Hg F H G) {x : D} {v : V} {T : String} (i : Is F H x v) (e : tyN G x = some T) : TyX K H v (.type T) := by
  cases x with
  | non => cases e; rw [is_non.mp i]; exact .base .non
  | bl b => cases e; rw [is_bl.mp i]; exact .base (.bl b)
  | int b => cases e; rw [is_int.mp i]; exact .base (.int b)
  | str b => cases e; rw [is_str.mp i]; exact .base (.str b)
  | tup b => cases e; obtain ⟨a, vs, rfl, h1, h2⟩ := is_tup.mp i; exact .base (.tup h1)
  | lst b => cases e; obtain ⟨a, vs, rfl, _, h1, h2⟩ := is_lst.mp i; exact .base (.lst h1)
  | ref p =>
    have e : (match lstG (G p) with | some _ => some "list" | none => none) = some T := e
    cases q : lstG (G p) with
    | none => rw [q] at e; cases e
    | some ds =>
      rw [q] at e
      cases e
      obtain ⟨z, hz, vs, rfl, hl⟩ := hG.get (lst_own q)
      rw [is_ref.mp i]
      exact .base (.lst hz)
def dIsi (T : String) (te : DE) : DE := fun s G Q => te s G fun x G1 => ∃ U b, tyN G1 x = some U ∧ kitB U T = some b ∧ Q (.bl b) G1
theorem qe_isi {e : Expr} {n : Str} {T : String} {p p2 pos : Pos} {te : DE} (hg : Gl X "isinstance") (hm : X.mg "isinstance" = none) (he : QE X e te) (hg2 : Gl X n) (hm2 : X.mg n = none) (hv : bootBuiltins n = some (.type T))
    (hn : n ≠ "__name__" := by decide) (hd : (n == ("__debug__" : Str)) = false := by decide)
    (hs : starEach [e, .Name n p2] X.env = (false, eval e X.env) :: starEach [.Name n p2] X.env := by rfl) (hs2 : starEach [.Name n p2] X.env = (false, eval (.Name n p2) X.env) :: starEach [] X.env := by rfl) (hpl : (backTo pos (starEach [.Name n p2] X.env)).any (·.1) = false := by rfl) :
    QE X (.Call (.Name "isinstance" p) [e, .Name n p2] [] pos) (dIsi T te) :=
  PE.weak (pe_callB call_isi hg hm (by decide +kernel) (pa_cons he (pa_cons (pe_bltn (v := .ty T) hg2 hm2 hv rfl hn hd) pa_nil hs2) hs) (by decide) (by decide) hs hpl) fun σ H Q h => by
    obtain ⟨F, s, G, Q', hs, hg, h, k⟩ := h
    refine lE_b hs hg h fun v H1 F1 d G1 e1 s1 g1 i1 ⟨U, b, h1, h2, q⟩ => ?_
    exact ⟨v, .ty T, .type U, .type T, b, rfl, .ty T, tyN_ok g1 i1 h1, kit_ty h2, k _ H1 F1 _ G1 e1 g1 (is_bl.mpr rfl) q⟩
def dIsi2 (T T2 : String) (te : DE) : DE := fun s G Q => te s G fun x G1 => ∃ U b b2, tyN G1 x = some U ∧ kitB U T = some b ∧ kitB U T2 = some b2 ∧ Q (.bl (b || b2)) G1
theorem kit_any2 {K : PySem.W.Frag} {U T T2 : String} {b b2 : Bool} (h1 : kitB U T = some b) (h2 : kitB U T2 = some b2) : PySem.W.kitAny K (.type U) [.type T, .type T2] = some (b || b2) := by
  refine kitAny_cons (kit_ty h1) (fun e => ?_) (fun e => by rw [e]; rfl)
  subst e
  refine kitAny_cons (kit_ty h2) (fun e => ?_) (fun e => by rw [e]; rfl)
  subst e
  rfl
theorem qe_isi2 {e : Expr} {n n2 : Str} {T T2 : String} {p p2 p3 pt pos : Pos} {kk} {te : DE} (hg : Gl X "isinstance") (hm : X.mg "isinstance" = none) (he : QE X e te) (hg2 : Gl X n) (hm2 : X.mg n = none) (hv : bootBuiltins n = some (.type T)) (hg3 : Gl X n2) (hm3 : X.mg n2 = none) (hv3 : bootBuiltins n2 = some (.type T2))
    (hn : n ≠ "__name__" := by decide) (hd : (n == ("__debug__" : Str)) = false := by decide) (hn3 : n2 ≠ "__name__" := by decide) (hd3 : (n2 == ("__debug__" : Str)) = false := by decide)
    (hs : starEach [e, .Tuple [.Name n p2, .Name n2 p3] kk pt] X.env = (false, eval e X.env) :: starEach [.Tuple [.Name n p2, .Name n2 p3] kk pt] X.env := by rfl) (hs1 : starEach [.Tuple [.Name n p2, .Name n2 p3] kk pt] X.env = (false, eval (.Tuple [.Name n p2, .Name n2 p3] kk pt) X.env) :: starEach [] X.env := by rfl)
    (hs2 : starEach [.Name n p2, .Name n2 p3] X.env = (false, eval (.Name n p2) X.env) :: starEach [.Name n2 p3] X.env := by rfl) (hs3 : starEach [.Name n2 p3] X.env = (false, eval (.Name n2 p3) X.env) :: starEach [] X.env := by rfl) (hpl : (backTo pos (starEach [.Tuple [.Name n p2, .Name n2 p3] kk pt] X.env)).any (·.1) = false := by rfl) :
    QE X (.Call (.Name "isinstance" p) [e, .Tuple [.Name n p2, .Name n2 p3] kk pt] [] pos) (dIsi2 T T2 te) :=
  PE.weak (pe_callB call_isiT hg hm (by decide +kernel) (pa_cons he (pa_cons (pe_tup (pa_cons (pe_bltn (v := .ty T) hg2 hm2 hv rfl hn hd) (pa_cons (pe_bltn (v := .ty T2) hg3 hm3 hv3 rfl hn3 hd3) pa_nil hs3) hs2)) pa_nil hs1) hs) (by decide) (by decide) hs hpl) fun σ H Q h => by
    obtain ⟨F, s, G, Q', hs, hg, h, k⟩ := h
    refine lE_b hs hg h fun v H1 F1 d G1 e1 s1 g1 i1 ⟨U, b, b2, h1, h2, h3, q⟩ => ?_
    show (2 : Nat) ≤ sizeLine ∧ _
    refine ⟨by decide, fun p hp => ?_⟩
    have ex : Ext F1 H1 F1 (upd H1 p (.tup [.ty T, .ty T2])) := ext_new g1.fok hp
    exact ⟨v, p, [.ty T, .ty T2], .type U, [.type T, .type T2], b || b2, rfl, upd_same, .cons (.ty T) (.cons (.ty T2) .nil), tyN_ok (g1.newT hp) (i1.mono ex) h1, kit_any2 h2 h3, k _ _ F1 _ G1 (e1.trans ex) (g1.newT hp) (is_bl.mpr rfl) q⟩

/-! ### len(set(xs)), list(range(n)), in range(n) -/
def dLenSet (te : DE) : DE := fun s G Q => te s G fun x G1 => ∃ ns : List Int, lstOf G1 x = some (ns.map D.int) ∧ ns.length < 64 ∧ ns.Nodup ∧ Q (.int (ns.length : Int)) G1
theorem qe_lenSet {a : Expr} {p p2 q pos : Pos} {ta : DE} (hc : X.calm = true) (hg : Gl X "len") (hm : X.mg "len" = none) (hg2 : Gl X "set") (hm2 : X.mg "set" = none) (ha : QE X a ta) (na : starEach [a] X.env = (false, eval a X.env) :: starEach [] X.env := by rfl) :
    QE X (.Call (.Name "len" p) [.Call (.Name "set" p2) [a] [] q] [] pos) (dLenSet ta) := PE.weak (pe_lenSetI hc hg hm hg2 hm2 ha na) fun σ H Q h => by
  obtain ⟨F, s, G, Q', hs, hg, h, k⟩ := h
  refine lE_b hs hg h fun v H1 F1 d G1 e1 s1 g1 i1 ⟨ns, h1, h2, h3, q⟩ => ?_
  obtain ⟨a, vs, rfl, h4, h5⟩ := lstOf_ok g1 i1 h1
  rw [h5.ints] at h4
  exact ⟨a, ns, rfl, .inl (.inl h4), h2, h3, k _ H1 F1 _ G1 e1 g1 (is_int.mpr rfl) q⟩
theorem cr_range1 : CallR X (.type "range") (fun vs H Q => ∃ j, vs = [V.int j] ∧ ∀ p, H p = none → Q (.ref p) (upd H p (.rng 0 j))) := by
  intro pins s σ H vs us Q I r h
  obtain ⟨j, rfl, q⟩ := h
  obtain ⟨u, rfl, ru⟩ := r.one
  obtain ⟨t, rfl⟩ := ru
  refine call_range_1 ⟨.ref s.heap.objs.size, upd H s.heap.objs.size (.rng 0 j), I.laid (fun b o e => Heap.get?_push_of_some _ e) (Nat.le_refl _) ?_, rfl, q _ (I.hok.fresh (Nat.le_refl _))⟩
  exact ⟨_, _, _, Heap.get?_push_size _ rfl⟩
end
end Dg

namespace Dg
open PySem PySem.Spec L2
section
variable {X : Cx} {K : PySem.W.Frag}
/-! ### range(n) as a value -/
theorem op_notin_rng : OpR X (compareOp .NotIn) (fun x y H Q => ∃ i a lo hi, x = V.int i ∧ y = V.ref a ∧ H a = some (.rng lo hi) ∧ Q (.bl (!decide (lo ≤ i ∧ i < hi))) H) := by
  intro pins s σ H x y v u Q I rx ry h
  obtain ⟨i, a, lo, hi, rfl, rfl, ha, q⟩ := h
  obtain ⟨k, rfl⟩ := rx
  obtain rfl : u = Value.ref a := ry
  obtain ⟨t1, t2, t3, ho⟩ := I.hok a _ ha
  show wpAny _ _ (do return Value.bool (!(← contains (Value.ref a) (Value.int i k)))) _ _ s
  refine wpAny_bind (wpAny_contains_slot (T := "range") ⟨_, ho, rfl⟩ F.slot_range_contains (call_meets F.slot_range_contains ⟨_, ho, rfl⟩ F.entry_range_contains (F.args_range_contains_2 _ _) (q_contains a lo hi i t1 t2 t3 k)
    ⟨ho, wpAny_truthy_bool (wpAny_pure ⟨.bl _, H, I, rfl, ?_⟩)⟩))
  rw [place1]
  exact q
def dNotInRng (ta tn : DE) : DE := fun s G Q => ta s G fun x G1 => tn s G1 fun y G2 => ∃ i n : Int, x = .int i ∧ y = .int n ∧ Q (.bl (!decide (0 ≤ i ∧ i < n))) G2
theorem lE_notInRng {ta tn : DE} {σ : St} {H : Hp} {Q : VK} (h : lE (dNotInRng ta tn) σ H Q) : tOp (fun x y H Q => ∃ i a lo hi, x = V.int i ∧ y = V.ref a ∧ H a = some (.rng lo hi) ∧ Q (.bl (!decide (lo ≤ i ∧ i < hi))) H) (lE ta) (tCB (fun vs H Q => ∃ j, vs = [V.int j] ∧ ∀ p, H p = none → Q (.ref p) (upd H p (.rng 0 j))) (tCons (lE tn) tNil)) σ H Q := by
  obtain ⟨F, s, G, Q', hs, hg, h, k⟩ := h
  refine lE_b hs hg h fun v H1 F1 d G1 e1 s1 g1 i1 h1 => ?_
  refine lE_b s1 g1 h1 fun w H2 F2 d2 G2 e2 s2 g2 i2 ⟨i, n, hi, hn, q⟩ => ?_
  subst hi hn
  refine ⟨n, by rw [is_int.mp i2], fun p hp => ?_⟩
  have ex : Ext F2 H2 F2 (upd H2 p (.rng 0 n)) := ext_new g2.fok hp
  exact ⟨i, p, 0, n, is_int.mp i1, rfl, upd_same, k _ _ F2 _ G2 ((e1.trans e2).trans ex) (g2.newT hp) (is_bl.mpr rfl) q⟩
theorem qe_notInRng {a n : Expr} {p q pos : Pos} {ta tn : DE} (hg : Gl X "range") (hm : X.mg "range" = none) (ha : QE X a ta) (hn : QE X n tn) (hs : starEach [n] X.env = (false, eval n X.env) :: starEach [] X.env := by rfl) (hpl : (backTo q (starEach [] X.env)).any (·.1) = false := by rfl)
    (hmk : behindInMarks .NotIn (.Call (.Name "range" p) [n] [] q) = false := by rfl) : QE X (.Compare a [.NotIn] [.Call (.Name "range" p) [n] [] q] pos) (dNotInRng ta tn) :=
  PE.weak (pe_cmpR op_notin_rng ha (pe_callTy cr_range1 hg hm (by decide +kernel) (pa_cons hn pa_nil hs) (by decide) (by decide) hs hpl) hmk) fun _ _ _ z => lE_notInRng z
theorem qt_notInRng {a n : Expr} {p q pos : Pos} {ta tn : DE} (hg : Gl X "range") (hm : X.mg "range" = none) (ha : QE X a ta) (hn : QE X n tn) (hs : starEach [n] X.env = (false, eval n X.env) :: starEach [] X.env := by rfl) (hpl : (backTo q (starEach [] X.env)).any (·.1) = false := by rfl)
    (hmk : behindInMarks .NotIn (.Call (.Name "range" p) [n] [] q) = false := by rfl) : QT X (.Compare a [.NotIn] [.Call (.Name "range" p) [n] [] q] pos) (dTest (dNotInRng ta tn)) :=
  PT.weak (pt_cmpR op_notin_rng ha (pe_callTy cr_range1 hg hm (by decide +kernel) (pa_cons hn pa_nil hs) (by decide) (by decide) hs hpl) hmk) fun _ _ _ z => lT_test (fun _ _ _ z => lE_notInRng z) z
/-- list(range(n)) -/
def dListRng (tn : DE) : DE := fun s G Q => tn s G fun y G1 => ∃ n : Int, y = .int n ∧ 0 ≤ n ∧ n ≤ 100000 ∧ ∀ p, G1 p = none → Q (.ref p) (ud G1 p (.sm (.lst ((List.range n.toNat).map fun (i : Nat) => D.int (i : Int)))))
theorem qe_listRng {n : Expr} {p p2 q pos : Pos} {tn : DE} (hc : X.calm = true) (hg : Gl X "list") (hm : X.mg "list" = none) (hg2 : Gl X "range") (hm2 : X.mg "range" = none) (hn : QE X n tn) (hs : starEach [n] X.env = [(false, eval n X.env)] := by rfl)
    (na : starEach [.Call (.Name "range" p2) [n] [] q] X.env = (false, eval (.Call (.Name "range" p2) [n] [] q) X.env) :: starEach [] X.env := by rfl) :
    QE X (.Call (.Name "list" p) [.Call (.Name "range" p2) [n] [] q] [] pos) (dListRng tn) := PE.weak (pe_listRg hc hg hm (prg_1 hg2 hm2 hn hs) na) fun σ H Q h => by
  obtain ⟨F, s, G, Q', hs, hg, h, k⟩ := h
  refine lE_b hs hg h fun v H1 F1 d G1 e1 s1 g1 i1 ⟨n, hn, h0, h1, q⟩ => ?_
  subst hn
  refine ⟨n, is_int.mp i1, ⟨by omega, by omega, by omega, by omega, by omega⟩, (k.step e1).newL g1 ?_ q⟩
  have e : rgV 0 n = ((List.range n.toNat).map fun (i : Nat) => (i : Int)).map V.int := by
    unfold rgV
    rw [List.map_map, Int.sub_zero]
    refine List.map_congr_left fun i _ => ?_
    show V.int (0 + (i : Int)) = V.int (i : Int)
    rw [Int.zero_add]
  have e2 : ((List.range n.toNat).map fun (i : Nat) => D.int (i : Int)) = ((List.range n.toNat).map fun (i : Nat) => (i : Int)).map D.int := by
    rw [List.map_map]
    rfl
  rw [e, e2]
  exact IsL.of_ints

/-! ### dicts -/
section
variable {κ : Type} [DecidableEq κ]
def valD (kvs : List (κ × D)) (k : κ) : Option D := (kvs.find? fun kv => decide (kv.1 = k)).map (·.2)
def putD (kvs : List (κ × D)) (k : κ) (v : D) : List (κ × D) :=
  if (kvs.any fun kv => decide (kv.1 = k)) = true then kvs.map (fun kv => if kv.1 = k then (kv.1, v) else kv) else kvs ++ [(k, v)]
def dropD (kvs : List (κ × D)) (k : κ) : List (κ × D) := kvs.filter fun kv => decide (kv.1 ≠ k)
theorem valD_nil {k : κ} : valD ([] : List (κ × D)) k = none := rfl
theorem valD_pos {p : κ × D} {r : List (κ × D)} {k : κ} (e : p.1 = k) : valD (p :: r) k = some p.2 := by simp [valD, List.find?_cons, e]
theorem valD_neg {p : κ × D} {r : List (κ × D)} {k : κ} (e : ¬ p.1 = k) : valD (p :: r) k = valD r k := by simp [valD, List.find?_cons, e]
/-- what is found stands for what is found -/
def RelOD (F : Fz) (H : Hp) : Option D → Option V → Prop
  | some d, some v => Is F H d v
  | none, none => True
  | _, _ => False
theorem valD_rel {F : Fz} {H : Hp} {k : κ} : ∀ {kds : List (κ × D)} {kvs : List (κ × V)}, IsP F H kds kvs → RelOD F H (valD kds k) (valV kvs k)
  | _, _, .nil => trivial
  | p :: r, q :: t, .cons h hs => by
    by_cases e : p.1 = k
    · rw [valD_pos e, valV_pos (h.1 ▸ e)]
      exact h.2
    · rw [valD_neg e, valV_neg (fun z => e (h.1.trans z))]
      exact valD_rel hs
theorem any_rel {F : Fz} {H : Hp} {k : κ} : ∀ {kds : List (κ × D)} {kvs : List (κ × V)}, IsP F H kds kvs → (kvs.any fun kv => decide (kv.1 = k)) = (kds.any fun kv => decide (kv.1 = k))
  | _, _, .nil => rfl
  | p :: r, q :: t, .cons h hs => by
    rw [List.any_cons, List.any_cons, any_rel hs, h.1]
theorem map_rel {F : Fz} {H : Hp} {k : κ} {d : D} {v : V} (hd : Is F H d v) : ∀ {kds : List (κ × D)} {kvs : List (κ × V)}, IsP F H kds kvs → IsP F H (kds.map fun kv => if kv.1 = k then (kv.1, d) else kv) (kvs.map fun kv => if kv.1 = k then (kv.1, v) else kv)
  | _, _, .nil => .nil
  | p :: r, q :: t, .cons h hs => by
    refine .cons ?_ (map_rel hd hs)
    dsimp only
    by_cases e : p.1 = k
    · rw [if_pos e, if_pos (h.1 ▸ e)]
      exact ⟨h.1, hd⟩
    · rw [if_neg e, if_neg (fun z => e (h.1.trans z))]
      exact h
theorem app_rel {F : Fz} {H : Hp} {k : κ} {d : D} {v : V} (hd : Is F H d v) : ∀ {kds : List (κ × D)} {kvs : List (κ × V)}, IsP F H kds kvs → IsP F H (kds ++ [(k, d)]) (kvs ++ [(k, v)])
  | _, _, .nil => .cons ⟨rfl, hd⟩ .nil
  | p :: r, q :: t, .cons h hs => .cons h (app_rel hd hs)
theorem putD_rel {F : Fz} {H : Hp} {k : κ} {d : D} {v : V} (hd : Is F H d v) {kds : List (κ × D)} {kvs : List (κ × V)} (h : IsP F H kds kvs) : IsP F H (putD kds k d) (putK kvs k v) := by
  unfold putD putK
  rw [any_rel h]
  split
  · exact map_rel hd h
  · exact app_rel hd h
theorem dropD_rel {F : Fz} {H : Hp} {k : κ} : ∀ {kds : List (κ × D)} {kvs : List (κ × V)}, IsP F H kds kvs → IsP F H (dropD kds k) (dropK kvs k)
  | _, _, .nil => .nil
  | p :: r, q :: t, .cons h hs => by
    have ih := dropD_rel (k := k) hs
    unfold dropD dropK at ih ⊢
    rw [List.filter_cons, List.filter_cons]
    by_cases e : p.1 = k
    · rw [if_neg (by simp [e]), if_neg (by simp [← h.1, e])]
      exact ih
    · rw [if_pos (by simp [e]), if_pos (by simp [← h.1, e])]
      exact .cons h ih
end
/-- a key -/
def keyD : D → Option Key
  | .int i => some (.inl i)
  | .str x => some (.inr x)
  | _ => none
def keyT : D → Option (List Key)
  | .tup ds => ds.mapM keyD
  | _ => none
theorem keyD_ok {F : Fz} {H : Hp} {d : D} {v : V} {k : Key} (i : Is F H d v) (e : keyD d = some k) : v = kV k := by
  cases d with
  | int j => cases e; exact is_int.mp i
  | str j => cases e; exact is_str.mp i
  | _ => cases e
theorem keys_ok {F : Fz} {H : Hp} : ∀ {ds : List D} {vs : List V} {ks : List Key}, IsL F H ds vs → ds.mapM keyD = some ks → vs = ks.map kV
  | [], vs, ks, i, e => by
    cases (show some [] = some ks from e)
    exact isL_nil.mp i
  | d :: ds, vs, ks, i, e => by
    obtain ⟨v, r, rfl, hv, hr⟩ := isL_cons.mp i
    rw [List.mapM_cons] at e
    cases h1 : keyD d with
    | none => rw [h1] at e; cases e
    | some k =>
      rw [h1] at e
      cases h2 : ds.mapM keyD with
      | none => rw [h2] at e; cases e
      | some kr =>
        rw [h2] at e
        cases (show some (k :: kr) = some ks from e)
        rw [keyD_ok hv h1, keys_ok hr h2]
        rfl
theorem keyT_ok {F : Fz} {H : Hp} {d : D} {v : V} {k : List Key} (i : Is F H d v) (e : keyT d = some k) : ∃ b, v = .ref b ∧ H b = some (.tup (k.map kV)) := by
  cases d with
  | tup ds =>
    obtain ⟨a, vs, rfl, h1, h2⟩ := is_tup.mp i
    exact ⟨a, rfl, by rw [← keys_ok h2 e]; exact h1⟩
  | _ => cases e
def dKG : Option GO → Option (List (Key × D))
  | some (.sm (.dK kvs)) => some kvs
  | some (.sm (.lkK _ kvs)) => some kvs
  | _ => none
def dTG : Option GO → Option (List (List Key × D))
  | some (.sm (.dT kvs)) => some kvs
  | some (.sm (.lkT _ kvs)) => some kvs
  | _ => none
theorem dK_own {G : Gp} {p : Addr} {kvs : List (Key × D)} (h : G p = some (.sm (.dK kvs))) : dKG (G p) = some kvs := by rw [h]; rfl
theorem dK_lk {G : Gp} {p : Addr} {z : HO} {kvs : List (Key × D)} (h : G p = some (.sm (.lkK z kvs))) : dKG (G p) = some kvs := by rw [h]; rfl
theorem dT_own {G : Gp} {p : Addr} {kvs : List (List Key × D)} (h : G p = some (.sm (.dT kvs))) : dTG (G p) = some kvs := by rw [h]; rfl
theorem dKG_ok {F : Fz} {H : Hp} {G : Gp} (hG : Hg F H G) {p : Addr} {kds : List (Key × D)} (h : dKG (G p) = some kds) : ∃ kvs, Rd H p (.dK kvs) ∧ IsP F H kds kvs := by
  cases q : G p with
  | none => rw [q] at h; cases h
  | some x =>
    cases x with
    | cmp L => rw [q] at h; cases h
    | sm o =>
      cases o with
      | dK es =>
        rw [q] at h
        cases (show some es = some kds from h)
        obtain ⟨z, hz, vs, rfl, hl⟩ := hG.get q
        exact ⟨vs, .inl hz, hl⟩
      | lkK zz es =>
        rw [q] at h
        cases (show some es = some kds from h)
        obtain ⟨z, hz, h0, o, vs, rfl, hl⟩ := hG.get q
        exact ⟨vs, .inr ⟨o, hz⟩, hl⟩
      | _ => rw [q] at h; cases h
theorem dTG_ok {F : Fz} {H : Hp} {G : Gp} (hG : Hg F H G) {p : Addr} {kds : List (List Key × D)} (h : dTG (G p) = some kds) : ∃ kvs, Rd H p (.dT kvs) ∧ IsP F H kds kvs := by
  cases q : G p with
  | none => rw [q] at h; cases h
  | some x =>
    cases x with
    | cmp L => rw [q] at h; cases h
    | sm o =>
      cases o with
      | dT es =>
        rw [q] at h
        cases (show some es = some kds from h)
        obtain ⟨z, hz, vs, rfl, hl⟩ := hG.get q
        exact ⟨vs, .inl hz, hl⟩
      | lkT zz es =>
        rw [q] at h
        cases (show some es = some kds from h)
        obtain ⟨z, hz, h0, o, vs, rfl, hl⟩ := hG.get q
        exact ⟨vs, .inr ⟨o, hz⟩, hl⟩
      | _ => rw [q] at h; cases h
/-- what stands in a dict at a key -/
def LK (G : Gp) (x y : D) (o : Option D) : Prop := (∃ p kvs k, x = .ref p ∧ dKG (G p) = some kvs ∧ keyD y = some k ∧ o = valD kvs k) ∨ ∃ p kvs k, x = .ref p ∧ dTG (G p) = some kvs ∧ keyT y = some k ∧ o = valD kvs k
theorem LK.k {G : Gp} {p : Addr} {y : D} {kvs : List (Key × D)} {k : Key} (h : dKG (G p) = some kvs) (hk : keyD y = some k) : LK G (.ref p) y (valD kvs k) := .inl ⟨p, kvs, k, rfl, h, hk, rfl⟩
theorem LK.t {G : Gp} {p : Addr} {y : D} {kvs : List (List Key × D)} {k : List Key} (h : dTG (G p) = some kvs) (hk : keyT y = some k) : LK G (.ref p) y (valD kvs k) := .inr ⟨p, kvs, k, rfl, h, hk, rfl⟩
theorem LK_ok {F : Fz} {H : Hp} {G : Gp} (hG : Hg F H G) {x y : D} {v w : V} {o : Option D} (ix : Is F H x v) (iy : Is F H y w) (h : LK G x y o) : ∃ a r, v = .ref a ∧ DGet H a w r ∧ RelOD F H o r := by
  rcases h with ⟨p, kvs, k, rfl, h1, h2, rfl⟩ | ⟨p, kvs, k, rfl, h1, h2, rfl⟩
  · obtain ⟨kv, h3, h4⟩ := dKG_ok hG h1
    exact ⟨p, _, is_ref.mp ix, .inl ⟨kv, k, h3, keyD_ok iy h2, rfl⟩, valD_rel h4⟩
  · obtain ⟨kv, h3, h4⟩ := dTG_ok hG h1
    obtain ⟨b, e, hb⟩ := keyT_ok iy h2
    exact ⟨p, _, is_ref.mp ix, .inr ⟨kv, k, b, h3, e, hb, rfl⟩, valD_rel h4⟩
def dDGet (td ty : DE) : DE := fun s G Q => td s G fun x G1 => ty s G1 fun y G2 => ∃ d, LK G2 x y (some d) ∧ Q d G2
theorem qe_dget {o i : Expr} {pos : Pos} {td ty : DE} (hu : X.A.units + 1 < cLine) (ho : QE X o td) (hi : QE X i ty) (hs : NoSl i := by exact fun _ _ => rfl) : QE X (.Subscript o i pos) (dDGet td ty) := PE.weak (pe_dget hu ho hi hs) fun σ H Q h => by
  obtain ⟨F, s, G, Q', hs, hg, h, k⟩ := h
  refine lE_b hs hg h fun v H1 F1 d G1 e1 s1 g1 i1 h1 => ?_
  refine lE_b s1 g1 h1 fun w H2 F2 d2 G2 e2 s2 g2 i2 ⟨d, hd, q⟩ => ?_
  obtain ⟨a, r, e, h3, h4⟩ := LK_ok g2 (i1.mono e2) i2 hd
  cases r with
  | none => exact h4.elim
  | some r => exact ⟨a, r, e, h3, k _ H2 F2 _ G2 (e1.trans e2) g2 h4 q⟩
theorem RelOD.some_eq {F : Fz} {H : Hp} {o : Option D} {r : Option V} (h : RelOD F H o r) : r.isSome = o.isSome := by
  cases o <;> cases r <;> first | rfl | exact h.elim
def dDIn (neg : Bool) (ty td : DE) : DE := fun s G Q => ty s G fun y G1 => td s G1 fun x G2 => ∃ o, LK G2 x y o ∧ Q (.bl (neg ^^ o.isSome)) G2
theorem lE_din {ty td : DE} {σ : St} {H : Hp} {Q : VK} (h : lE (dDIn false ty td) σ H Q) : tDIn (lE ty) (lE td) σ H Q := by
  obtain ⟨F, s, G, Q', hs, hg, h, k⟩ := h
  refine lE_b hs hg h fun v H1 F1 d G1 e1 s1 g1 i1 h1 => ?_
  refine lE_b s1 g1 h1 fun w H2 F2 d2 G2 e2 s2 g2 i2 ⟨o, hd, q⟩ => ?_
  obtain ⟨a, r, e, h3, h4⟩ := LK_ok g2 i2 (i1.mono e2) hd
  refine ⟨a, r, e, h3, k _ H2 F2 _ G2 (e1.trans e2) g2 (is_bl.mpr rfl) ?_⟩
  rw [h4.some_eq]
  rw [Bool.false_xor] at q
  exact q
theorem lE_dnotin {ty td : DE} {σ : St} {H : Hp} {Q : VK} (h : lE (dDIn true ty td) σ H Q) : tDNotIn (lE ty) (lE td) σ H Q := by
  obtain ⟨F, s, G, Q', hs, hg, h, k⟩ := h
  refine lE_b hs hg h fun v H1 F1 d G1 e1 s1 g1 i1 h1 => ?_
  refine lE_b s1 g1 h1 fun w H2 F2 d2 G2 e2 s2 g2 i2 ⟨o, hd, q⟩ => ?_
  obtain ⟨a, r, e, h3, h4⟩ := LK_ok g2 i2 (i1.mono e2) hd
  refine ⟨a, r, e, h3, k _ H2 F2 _ G2 (e1.trans e2) g2 (is_bl.mpr rfl) ?_⟩
  rw [h4.some_eq]
  rw [Bool.true_xor] at q
  exact q
theorem qe_din {i o : Expr} {pos : Pos} {ty td : DE} (hu : X.A.units + 1 < cLine) (hi : QE X i ty) (ho : QE X o td) (h1 : behindInMarks .In o = false := by rfl) : QE X (.Compare i [.In] [o] pos) (dDIn false ty td) := PE.weak (pe_cmp (pc_din hu hi ho) h1) fun _ _ _ z => lE_din z
theorem qe_dnotin {i o : Expr} {pos : Pos} {ty td : DE} (hu : X.A.units + 1 < cLine) (hi : QE X i ty) (ho : QE X o td) (h1 : behindInMarks .NotIn o = false := by rfl) : QE X (.Compare i [.NotIn] [o] pos) (dDIn true ty td) := PE.weak (pe_cmp (pc_dnotin hu hi ho) h1) fun _ _ _ z => lE_dnotin z
theorem qt_din {i o : Expr} {pos : Pos} {ty td : DE} (hu : X.A.units + 1 < cLine) (hi : QE X i ty) (ho : QE X o td) (h1 : behindInMarks .In o = false := by rfl) : QT X (.Compare i [.In] [o] pos) (dTest (dDIn false ty td)) := PT.weak (pt_cmp (pc_din hu hi ho) h1) fun _ _ _ z => tB_test (lT_test (fun _ _ _ z => lE_din z) z)
theorem qt_dnotin {i o : Expr} {pos : Pos} {ty td : DE} (hu : X.A.units + 1 < cLine) (hi : QE X i ty) (ho : QE X o td) (h1 : behindInMarks .NotIn o = false := by rfl) : QT X (.Compare i [.NotIn] [o] pos) (dTest (dDIn true ty td)) := PT.weak (pt_cmp (pc_dnotin hu hi ho) h1) fun _ _ _ z => tB_test (lT_test (fun _ _ _ z => lE_dnotin z) z)
/-- d[k] = v -/
def PT0 (G : Gp) (x y v : D) (Q : Gp → Prop) : Prop := (∃ p kvs k, x = .ref p ∧ G p = some (.sm (.dK kvs)) ∧ keyD y = some k ∧ kvs.length < 100000 ∧ Q (ud G p (.sm (.dK (putD kvs k v))))) ∨
  ∃ p kvs k, x = .ref p ∧ G p = some (.sm (.dT kvs)) ∧ keyT y = some k ∧ kvs.length < 100000 ∧ Q (ud G p (.sm (.dT (putD kvs k v))))
def dDPut (td ty tv : DE) : DS := fun E s G => tv s G fun v G1 => td s G1 fun x G2 => ty s G2 fun y G3 => PT0 G3 x y v fun G4 => E.nx s G4
theorem qs_dput {o i value : Expr} {pos pos' : Pos} {td ty tv : DE} (hu : X.A.units + 1 < cLine) (ho : QE X o td) (hi : QE X i ty) (hv : QE X value tv) (hs : swapsWith value (some (.Subscript o i pos')) pos.line X.env = pure false := by rfl) :
    QS X (.Assign [.Subscript o i pos'] value pos) (dDPut td ty tv) := PS.weak (ps_dput hu ho hi hv hs) fun E σ H h => by
  obtain ⟨F, s, G, E', hs, hg, h, k⟩ := h
  refine lE_b hs hg h fun v H1 F1 d1 G1 e1 s1 g1 i1 h1 => ?_
  refine lE_b s1 g1 h1 fun x H2 F2 d2 G2 e2 s2 g2 i2 h2 => ?_
  refine lE_b s2 g2 h2 fun y H3 F3 d3 G3 e3 s3 g3 i3 h3 => ?_
  have i1' := i1.mono (e2.trans e3)
  have i2' := i2.mono e3
  rcases h3 with ⟨p, kvs, kk, rfl, h4, h5, h6, q⟩ | ⟨p, kvs, kk, rfl, h4, h5, h6, q⟩
  · obtain ⟨z, hz, vs, rfl, hl⟩ := g3.get h4
    have e5 := ext_own (z := .dK (putK vs kk v)) g3 h4
    exact ⟨p, _, is_ref.mp i2', .inl ⟨vs, kk, hz, keyD_ok i3 h5, by rw [hl.length]; exact sz_lt h6, rfl⟩, k.nx _ _ F3 _ _ (((e1.trans e2).trans e3).trans e5) (s3.mono e5) (g3.set (o' := .dK (putD kvs kk d1)) h4 ⟨_, rfl, putD_rel (i1'.mono e5) (hl.mono e5)⟩) q⟩
  · obtain ⟨z, hz, vs, rfl, hl⟩ := g3.get h4
    obtain ⟨b, e, hb⟩ := keyT_ok i3 h5
    have e5 := ext_own (z := .dT (putK vs kk v)) g3 h4
    exact ⟨p, _, is_ref.mp i2', .inr ⟨vs, kk, b, hz, e, hb, by rw [hl.length]; exact sz_lt h6, rfl⟩, k.nx _ _ F3 _ _ (((e1.trans e2).trans e3).trans e5) (s3.mono e5) (g3.set (o' := .dT (putD kvs kk d1)) h4 ⟨_, rfl, putD_rel (i1'.mono e5) (hl.mono e5)⟩) q⟩
/-- d.get(k) -/
def isDG (G : Gp) (x : D) : Prop := ∃ p, x = .ref p ∧ ((∃ kvs, dKG (G p) = some kvs) ∨ ∃ kvs, dTG (G p) = some kvs)
theorem isDG_ok {F : Fz} {H : Hp} {G : Gp} (hG : Hg F H G) {x : D} {v : V} (i : Is F H x v) (h : isDG G x) : ∃ a, v = .ref a ∧ IsD H a := by
  obtain ⟨p, rfl, h⟩ := h
  refine ⟨p, is_ref.mp i, ?_⟩
  rcases h with ⟨kvs, h⟩ | ⟨kvs, h⟩
  · obtain ⟨kv, h1, _⟩ := dKG_ok hG h
    exact .inl ⟨kv, h1⟩
  · obtain ⟨kv, h1, _⟩ := dTG_ok hG h
    exact .inr ⟨kv, h1⟩
def dDGet1 (td ty : DE) : DE := fun s G Q => td s G fun x G1 => isDG G1 x ∧ ty s G1 fun y G2 => ∃ o, LK G2 x y o ∧ Q (o.getD .non) G2
theorem qe_dget1 {o e : Expr} {apos cpos : Pos} {td ty : DE} (hu : X.A.units + 1 < cLine) (ho : QE X o td) (he : QE X e ty) (m : M1 X o "get" apos e cpos := by exact ⟨rfl, rfl, rfl, rfl⟩) : QE X (.Call (.Attribute o "get" apos) [e] [] cpos) (dDGet1 td ty) := PE.weak (pe_dget1 hu ho he m) fun σ H Q h => by
  obtain ⟨F, s, G, Q', hs, hg, h, k⟩ := h
  refine lE_b hs hg h fun v H1 F1 d1 G1 e1 s1 g1 i1 ⟨hd, h1⟩ => ?_
  obtain ⟨a, rfl, ha⟩ := isDG_ok g1 i1 hd
  refine ⟨a, rfl, ha, ?_⟩
  refine lE_b s1 g1 h1 fun w H2 F2 d2 G2 e2 s2 g2 i2 ⟨o, ho, q⟩ => ?_
  obtain ⟨b, r, e, h3, h4⟩ := LK_ok g2 (i1.mono e2) i2 ho
  cases e
  refine ⟨r, h3, ?_⟩
  cases o with
  | none =>
    cases r with
    | none => exact k _ H2 F2 _ G2 (e1.trans e2) g2 (is_non.mpr rfl) q
    | some r => exact h4.elim
  | some d =>
    cases r with
    | none => exact h4.elim
    | some r => exact k _ H2 F2 _ G2 (e1.trans e2) g2 h4 q
/-- d.pop(k), it is there -/
def dDPop1 (td ty : DE) : DE := fun s G Q => td s G fun x G1 => isDG G1 x ∧ ty s G1 fun y G2 => ∃ p kvs k d, x = .ref p ∧ G2 p = some (.sm (.dK kvs)) ∧ keyD y = some k ∧ valD kvs k = some d ∧ Q d (ud G2 p (.sm (.dK (dropD kvs k))))
theorem qe_dpop1 {o e : Expr} {apos cpos : Pos} {td ty : DE} (ho : QE X o td) (he : QE X e ty) (m : M1 X o "pop" apos e cpos := by exact ⟨rfl, rfl, rfl, rfl⟩) : QE X (.Call (.Attribute o "pop" apos) [e] [] cpos) (dDPop1 td ty) := PE.weak (pe_dpop1 ho he m) fun σ H Q h => by
  obtain ⟨F, s, G, Q', hs, hg, h, k⟩ := h
  refine lE_b hs hg h fun v H1 F1 d1 G1 e1 s1 g1 i1 ⟨hd, h1⟩ => ?_
  obtain ⟨a, rfl, ha⟩ := isDG_ok g1 i1 hd
  refine ⟨a, rfl, ha, ?_⟩
  refine lE_b s1 g1 h1 fun w H2 F2 d2 G2 e2 s2 g2 i2 ⟨p, kvs, kk, d, hx, hp, hk, hv, q⟩ => ?_
  subst hx
  cases is_ref.mp i1
  obtain ⟨z, hz, vs, rfl, hl⟩ := g2.get hp
  have hr := valD_rel (k := kk) hl
  rw [hv] at hr
  cases hvv : valV vs kk with
  | none => rw [hvv] at hr; exact hr.elim
  | some r =>
    rw [hvv] at hr
    have e5 := ext_own (z := .dK (dropK vs kk)) g2 hp
    exact ⟨vs, kk, r, hz, keyD_ok i2 hk, hvv, k _ _ F2 _ _ ((e1.trans e2).trans e5) (g2.set (o' := .dK (dropD kvs kk)) hp ⟨_, rfl, dropD_rel (hl.mono e5)⟩) (hr.mono e5) q⟩
/-- {}: keys numbers and texts; keys tuples -/
def dNewK : DE := fun _ G Q => ∀ p, G p = none → Q (.ref p) (ud G p (.sm (.dK [])))
def dNewT : DE := fun _ G Q => ∀ p, G p = none → Q (.ref p) (ud G p (.sm (.dT [])))
theorem qe_newK {pos : Pos} : QE X (.Dict [] [] pos) dNewK := PE.weak pe_dnewK fun σ H Q h => by
  obtain ⟨F, s, G, Q', hs, hg, h, k⟩ := h
  exact fun p hp => k _ _ F _ _ (ext_new hg.fok hp) (hg.new (o := .dK []) hp ⟨[], rfl, .nil⟩) (is_ref.mpr rfl) (h p (hg.fresh hp))
theorem qe_newT {pos : Pos} : QE X (.Dict [] [] pos) dNewT := PE.weak pe_dnewT fun σ H Q h => by
  obtain ⟨F, s, G, Q', hs, hg, h, k⟩ := h
  exact fun p hp => k _ _ F _ _ (ext_new hg.fok hp) (hg.new (o := .dT []) hp ⟨[], rfl, .nil⟩) (is_ref.mpr rfl) (h p (hg.fresh hp))
/-- {k: v, ..} -/
def dPairs : List (DE × DE) → DSt → Gp → (List (D × D) → Gp → Prop) → Prop
  | [], _, G, Q => Q [] G
  | (tk, tv) :: r, s, G, Q => tk s G fun x G1 => tv s G1 fun y G2 => dPairs r s G2 fun ps G3 => Q ((x, y) :: ps) G3
def mergeD (kvs more : List (Key × D)) : List (Key × D) := more.foldl (fun acc kv => putD acc kv.1 kv.2) kvs
def keysD : List (D × D) → Option (List (Key × D))
  | [] => some []
  | (x, y) :: r => (match keyD x, keysD r with
    | some k, some kr => some ((k, y) :: kr)
    | _, _ => none)
def dDisp (trs : List (DE × DE)) : DE := fun s G Q => ∀ p, G p = none → dPairs trs s (ud G p (.sm (.dK []))) fun ps G2 => G2 p = some (.sm (.dK [])) ∧ ∃ kvs, keysD ps = some kvs ∧ kvs.length ≤ 15 ∧ Q (.ref p) (ud G2 p (.sm (.dK (mergeD [] kvs))))
def IsPP (F : Fz) (H : Hp) : List (D × D) → List (V × V) → Prop := Paired fun p q => Is F H p.1 q.1 ∧ Is F H p.2 q.2
theorem IsPP.mono {F F' : Fz} {H H' : Hp} (e : Ext F H F' H') {ps : List (D × D)} {qs : List (V × V)} (h : IsPP F H ps qs) : IsPP F' H' ps qs := Paired.mapP h fun _ _ z => ⟨z.1.mono e, z.2.mono e⟩
theorem pairs_ok : ∀ {trs : List (DE × DE)} {σ : St} {s : DSt} {H : Hp} {F : Fz} {G : Gp} {Q : List (V × V) → Hp → Prop} {Q' : List (D × D) → Gp → Prop}, IsS F H s σ → Hg F H G → dPairs trs s G Q' → (∀ ps H' F' ds G', Ext F H F' H' → Hg F' H' G' → IsPP F' H' ds ps → Q' ds G' → Q ps H') → tPairs (trs.map fun t => (lE t.1, lE t.2)) σ H Q
  | [], σ, s, H, F, G, Q, Q', hs, hg, h, k => k [] H F [] G (Ext.refl F H) hg .nil h
  | (tk, tv) :: r, σ, s, H, F, G, Q, Q', hs, hg, h, k => by
    refine lE_b hs hg h fun v H1 F1 d1 G1 e1 s1 g1 i1 h1 => ?_
    refine lE_b s1 g1 h1 fun w H2 F2 d2 G2 e2 s2 g2 i2 h2 => ?_
    exact pairs_ok s2 g2 h2 fun ps H3 F3 ds G3 e3 g3 i3 q3 => k _ H3 F3 _ G3 ((e1.trans e2).trans e3) g3 (.cons ⟨i1.mono (e2.trans e3), i2.mono e3⟩ i3) q3
theorem keysD_ok {F : Fz} {H : Hp} : ∀ {ds : List (D × D)} {ps : List (V × V)} {kds : List (Key × D)}, IsPP F H ds ps → keysD ds = some kds → ∃ kvs, ps = kvs.map (fun kv => (kV kv.1, kv.2)) ∧ IsP F H kds kvs
  | _, _, kds, .nil, e => by
    cases (show some [] = some kds from e)
    exact ⟨[], rfl, .nil⟩
  | (x, y) :: r, (v, w) :: t, kds, .cons h hs, e => by
    have e : (match keyD x, keysD r with
      | some k, some kr => some ((k, y) :: kr)
      | _, _ => none) = some kds := e
    cases h1 : keyD x with
    | none => rw [h1] at e; cases e
    | some k =>
      cases h2 : keysD r with
      | none => rw [h1, h2] at e; cases e
      | some kr =>
        rw [h1, h2] at e
        cases (show some ((k, y) :: kr) = some kds from e)
        obtain ⟨kvs, h3, h4⟩ := keysD_ok hs h2
        refine ⟨(k, w) :: kvs, ?_, .cons ⟨rfl, h.2⟩ h4⟩
        rw [h3, List.map_cons, ← keyD_ok h.1 h1]
theorem merge_rel {F : Fz} {H : Hp} : ∀ {more : List (Key × D)} {more' : List (Key × V)} {kds : List (Key × D)} {kvs : List (Key × V)}, IsP F H more more' → IsP F H kds kvs → IsP F H (mergeD kds more) (mergeK kvs more')
  | _, _, _, _, .nil, h => h
  | p :: r, q :: t, kds, kvs, .cons h hs, hk => by
    obtain ⟨k, d⟩ := p
    obtain ⟨k', v⟩ := q
    obtain ⟨rfl, hd⟩ : k = k' ∧ Is F H d v := h
    show IsP F H (mergeD (putD kds k d) r) (mergeK (putK kvs k v) t)
    exact merge_rel hs (putD_rel hd hk)
theorem qe_disp {pos : Pos} {keys : List (Option Expr)} {values : List Expr} {trs : List (DE × DE)} (h : PPs X pos keys values (trs.map fun t => (lE t.1, lE t.2))) (hall : keys.all (·.isSome) = true := by rfl) (hl : keys.length = values.length := by rfl) (h0 : keys ≠ [] := by exact fun z => by cases z)
    (h15 : keys.length ≤ 15 := by decide) : QE X (.Dict keys values pos) (dDisp trs) := PE.weak (pe_disp h hall hl h0 h15) fun σ H Q h => by
  obtain ⟨F, s, G, Q', hs, hg, h, k⟩ := h
  intro p hp
  have ex : Ext F H F (upd H p (.dK [])) := ext_new hg.fok hp
  refine pairs_ok (hs.mono ex) (hg.new (o := .dK []) hp ⟨[], rfl, .nil⟩) (h p (hg.fresh hp)) fun ps H2 F2 ds G2 e2 g2 i2 ⟨h1, kvs, h2, h3, q⟩ => ?_
  obtain ⟨z, hz, vs, rfl, hl⟩ := g2.get h1
  cases hl
  obtain ⟨kv, h4, h5⟩ := keysD_ok i2 h2
  have e5 := ext_own (z := .dK (mergeK [] kv)) g2 h1
  exact ⟨hz, kv, h4, by rw [h5.length]; exact h3, k _ _ F2 _ _ ((ex.trans e2).trans e5) (g2.set (o' := .dK (mergeD [] kvs)) h1 ⟨_, rfl, merge_rel (h5.mono e5) .nil⟩) (is_ref.mpr rfl) q⟩
theorem qps_nil {pos : Pos} : PPs X pos [] [] (([] : List (DE × DE)).map fun t => (lE t.1, lE t.2)) := pps_nil
theorem qps_cons {pos : Pos} {k v : Expr} {ks : List (Option Expr)} {vs : List Expr} {tk tv : DE} {trs : List (DE × DE)} (hk : QE X k tk) (hv : QE X v tv) (hr : PPs X pos ks vs (trs.map fun t => (lE t.1, lE t.2))) :
    PPs X pos (some k :: ks) (v :: vs) (((tk, tv) :: trs).map fun t => (lE t.1, lE t.2)) := pps_cons hk hv hr
end
end Dg

namespace Dg
open PySem PySem.Spec L2
open PyProof.Rows (envOfC)
section
variable {X : Cx} {K : PySem.W.Frag}
/-! ### short names -/
theorem qv (i : Nat) {x : Str} {pos : Pos} (hN : X.N[i]? = some x := by rfl) (hv : Vis X.env.scope x := by first | exact Or.inl rfl | exact Or.inr (Or.inl rfl) | exact Or.inr (Or.inr rfl)) (hd : (x == ("__debug__" : Str)) = false := by decide) (hcd : (x == ("__classdict__" : Str)) = false := by decide) : QE X (.Name x pos) (dVar i) := qe_var hN hv hd hcd
theorem sr_add : SR (rI0 fun i j => .int (i + j)) eAdd := sr_I0 fun _ _ _ _ => is_int.mpr rfl
theorem sr_sub : SR (rI0 fun i j => .int (i - j)) eSub := sr_I0 fun _ _ _ _ => is_int.mpr rfl
theorem sr_lt : SR (rI0 fun i j => .bl (decide (i < j))) eLt := sr_I0 fun _ _ _ _ => is_bl.mpr rfl
theorem sr_le : SR (rI0 fun i j => .bl (decide (i ≤ j))) eLe := sr_I0 fun _ _ _ _ => is_bl.mpr rfl
theorem sr_gt : SR (rI0 fun i j => .bl (decide (j < i))) eGt := sr_I0 fun _ _ _ _ => is_bl.mpr rfl
theorem sr_ge : SR (rI0 fun i j => .bl (decide (j ≤ i))) eGe := sr_I0 fun _ _ _ _ => is_bl.mpr rfl
def eMul : DR2 := eI CMul fun i j => .int (i * j)
def eMod : DR2 := eI (fun _ j => 0 < j) fun i j => .int (i % j)
def eDiv : DR2 := eI CDiv fun i j => .int (i / j)
def ePow : DR2 := eI CPow fun i j => .int (i ^ j.toNat)
theorem sr_mul : SR (rI CMul fun i j => .int (i * j)) eMul := sr_I fun _ _ _ _ => is_int.mpr rfl
theorem sr_mod : SR (rI (fun _ j => 0 < j) fun i j => .int (i % j)) eMod := sr_I fun _ _ _ _ => is_int.mpr rfl
theorem sr_div : SR (rI CDiv fun i j => .int (i / j)) eDiv := sr_I fun _ _ _ _ => is_int.mpr rfl
theorem sr_pow : SR (rI CPow fun i j => .int (i ^ j.toNat)) ePow := sr_I fun _ _ _ _ => is_int.mpr rfl
theorem hu_room {k : Nat} {A : Around} (r : Room k A) : A.units + 1 < cLine := by have := r.un; omega
theorem hu65 {k : Nat} {A : Around} (r : Room k A) : A.units + 65 < cLine := by have := r.un; omega

/-! ### a def that keeps its promise, by its name -/
structure Fn (P : Program) (w : World) (K : PySem.W.Frag) (mg : Str → Option Value) (base : Heap) (x : Str) (ps : List Str) (k : Nat) (sp : DSp) : Prop where
  ex : ∃ f fd, FnOk P w K mg base CX0 k f fd ps (lSp sp) ∧ mg x = some (.ref f) ∧ PySem.W.keepIn K (.ref f) = true ∧ Binds K fd ps []
theorem qe_fn {x : Str} {p pos : Pos} {e : Expr} {es : List Expr} {k j : Nat} {ps : List Str} {sp : DSp} {t : DA} (F : Fn X.prog X.w X.K X.mg X.base x ps k sp) (hr : Room j X.A) (hj : k ≤ j) (hg : Gl X x) (ha : QA X (e :: es) t)
    (hd : (x == ("__debug__" : Str)) = false := by decide) (hs : starEach (e :: es) X.env = (false, eval e X.env) :: starEach es X.env := by rfl) (hpl : (backTo pos (starEach es X.env)).any (·.1) = false := by rfl) :
    QE X (.Call (.Name x p) (e :: es) [] pos) (dCall sp t) := by
  obtain ⟨f, fd, h1, h2, h3, h4⟩ := F.ex
  exact qe_call h1 (hr.mono hj) hg h2 h3 h4 ha hd hs hpl
theorem FnOk.weakD {P : Program} {w : World} {K : PySem.W.Frag} {mg : Str → Option Value} {base : Heap} {k : Nat} {f : Addr} {fd : FuncData} {ps : List Str} {sp sp' : DSp} (F : FnOk P w K mg base CX0 k f fd ps (lSp sp)) (h : ∀ ds G Q, sp' ds G Q → sp ds G Q) : FnOk P w K mg base CX0 k f fd ps (lSp sp') :=
  F.imp fun vs H Q E z => by
    obtain ⟨F1, ds, G, Q', a, b, c, d⟩ := z
    exact ⟨F1, ds, G, Q', a, b, h _ _ _ c, d⟩
/-! ### the script, the row of draws -/
def WrL (K : PySem.W.Frag) (a : Addr) (ns : List Int) : Prop := ∃ (o : Obj) (its : Array Value) (n : Nat), K.lookup a = some o ∧ o.cls = .type "list" ∧ o.dict = none ∧ o.data = .seq its n ∧ its.size ≤ sizeLine ∧ Vals (ns.map V.int) its.toList
def ScrAt (K : PySem.W.Frag) (G : Gp) (sc : Addr) (ns : List Int) : Prop := G sc = some (.sm (.scr ns)) ∨ WrL K sc ns
theorem scr_ok {F : Fz} {H : Hp} {G : Gp} (hG : Hg F H G) {sc : Addr} {ns : List Int} (h : ScrAt K G sc ns) : SqL K H sc (ns.map V.int) := by
  rcases h with h | h
  · obtain ⟨z, hz, rfl | ⟨o, rfl⟩⟩ := hG.get h
    · exact .inl (.inl hz)
    · exact .inl (.inr ⟨o, hz⟩)
  · exact .inr h
def eIxS (K : PySem.W.Frag) : DR2 := fun x y G Q => ∃ sc ns i n, x = .ref sc ∧ ScrAt K G sc ns ∧ y = .int i ∧ atI ns i = some n ∧ Q (.int n) G
theorem sr_ixS : SR (rIxL K) (eIxS K) := by
  rintro F H G x y dx dy Q Q' hG ix iy ⟨sc, ns, i, n, rfl, hs, rfl, ha, q⟩ k
  refine ⟨sc, ns.map V.int, i, .int n, is_ref.mp ix, is_int.mp iy, scr_ok hG hs, ?_, k.fin hG (is_int.mpr rfl) q⟩
  unfold atI at ha ⊢
  rw [List.length_map]
  cases e : ixN ns.length i with
  | none => rw [e] at ha; cases ha
  | some j =>
    rw [e] at ha
    show (ns.map V.int)[j]? = some (.int n)
    rw [List.getElem?_map]
    have ha : ns[j]? = some n := ha
    rw [ha]
    rfl
def cLenS (K : PySem.W.Frag) : List D → Gp → DK → Prop := fun xs G Q => ∃ sc ns, xs = [.ref sc] ∧ ScrAt K G sc ns ∧ Q (.int (ns.length : Int)) G
theorem sc_lenS : SC (fun xs H Q => ∃ p ys, xs = [.ref p] ∧ (SqL K H p ys ∨ SqT K H p ys) ∧ Q (.int ys.length) H) (cLenS K) := by
  rintro F H G xs ds Q Q' hG il ⟨sc, ns, rfl, hs, q⟩ k
  obtain ⟨v, rfl, iv⟩ := isL_one il
  refine ⟨sc, ns.map V.int, by rw [is_ref.mp iv], .inl (scr_ok hG hs), ?_⟩
  rw [List.length_map]
  exact k.fin hG (is_int.mpr rfl) q
def RowB (i s r : Int) : Prop := 0 ≤ i ∧ 0 ≤ s ∧ s < 2147483647 ∧ 0 ≤ r
/-- [script, place, mixed, rest] -/
def layRow (K : PySem.W.Frag) : Addr → List (Addr × SO) → Prop := fun a ps => ∃ sc ns i s r, RowB i s r ∧
  ((sc ≠ a ∧ ps = [(a, .lst [.ref sc, .int i, .int s, .int r]), (sc, .scr ns)]) ∨ (WrL K sc ns ∧ ps = [(a, .lst [.ref sc, .int i, .int s, .int r])]))
abbrev gRow (K : PySem.W.Frag) : GO := .cmp (layRow K)
/-- the row is opened; the last part shuts it again -/
theorem row_open {F : Fz} {H : Hp} {G : Gp} (g : Hg F H G) {a : Addr} (h : G a = some (gRow K)) : ∃ G1 sc ns i s r, RowB i s r ∧ G1 a = some (.sm (.lst [.ref sc, .int i, .int s, .int r])) ∧ (∀ x, ScrAt K (ud G1 a x) sc ns) ∧ Hg F H G1 ∧
    ∀ F' H' i' s' r', RowB i' s' r' → Hg F' H' (ud G1 a (.sm (.lst [.ref sc, .int i', .int s', .int r']))) → Hg F' H' G := by
  obtain ⟨ps, ⟨sc, ns, i, s, r, hb, hc⟩, ho, hfree, huniq, hop⟩ := g.openC h
  rcases hc with ⟨ne, rfl⟩ | ⟨hw, rfl⟩
  · have hsc : G sc = none := hfree sc (.scr ns) (by simp) ne
    refine ⟨ud (ud G sc (.sm (.scr ns))) a (.sm (.lst [.ref sc, .int i, .int s, .int r])), sc, ns, i, s, r, hb, ud_same, fun x => .inl (by rw [ud_ne ne, ud_ne ne, ud_same]), ?_, ?_⟩
    · refine hop _ fun b x e => ?_
      by_cases h1 : b = a
      · subst h1
        rw [ud_same] at e
        cases e
        exact .inr ⟨_, List.mem_cons_self .., rfl⟩
      · rw [ud_ne h1] at e
        by_cases h2 : b = sc
        · subst h2
          rw [ud_same] at e
          cases e
          exact .inr ⟨_, List.mem_cons_of_mem _ (List.mem_cons_self ..), rfl⟩
        · rw [ud_ne h2] at e
          exact .inl ⟨e, h1⟩
    · intro F' H' i' s' r' hb' g'
      refine Hg.close (a := a) (L := layRow K) (ps := [(a, .lst [.ref sc, .int i', .int s', .int r']), (sc, .scr ns)]) g' ⟨sc, ns, i', s', r', hb', .inl ⟨ne, rfl⟩⟩ ⟨_, List.mem_cons_self ..⟩ (fun b o hm => ?_) fun b x e => ?_
      · rcases List.mem_cons.mp hm with q | q
        · cases q
          exact ud_same
        · rcases List.mem_cons.mp q with q | q
          · cases q
            rw [ud_ne ne, ud_ne ne, ud_same]
          · cases q
      · by_cases h1 : b = a
        · subst h1
          rw [h] at e
          cases e
          exact .inl ⟨rfl, rfl⟩
        · have h2 : b ≠ sc := fun q => by
            rw [q, hsc] at e
            cases e
          refine .inr ⟨by rw [ud_ne h1, ud_ne h1, ud_ne h2]; exact e, fun o hm => ?_⟩
          rcases List.mem_cons.mp hm with q | q
          · cases q
            exact h1 rfl
          · rcases List.mem_cons.mp q with q | q
            · cases q
              exact h2 rfl
            · cases q
  · refine ⟨ud G a (.sm (.lst [.ref sc, .int i, .int s, .int r])), sc, ns, i, s, r, hb, ud_same, fun x => .inr hw, ?_, ?_⟩
    · refine hop _ fun b x e => ?_
      by_cases h1 : b = a
      · subst h1
        rw [ud_same] at e
        cases e
        exact .inr ⟨_, List.mem_cons_self .., rfl⟩
      · rw [ud_ne h1] at e
        exact .inl ⟨e, h1⟩
    · intro F' H' i' s' r' hb' g'
      refine Hg.close (a := a) (L := layRow K) (ps := [(a, .lst [.ref sc, .int i', .int s', .int r'])]) g' ⟨sc, ns, i', s', r', hb', .inr ⟨hw, rfl⟩⟩ ⟨_, List.mem_cons_self ..⟩ (fun b o hm => ?_) fun b x e => ?_
      · rcases List.mem_cons.mp hm with q | q
        · cases q
          exact ud_same
        · cases q
      · by_cases h1 : b = a
        · subst h1
          rw [h] at e
          cases e
          exact .inl ⟨rfl, rfl⟩
        · refine .inr ⟨by rw [ud_ne h1, ud_ne h1]; exact e, fun o hm => ?_⟩
          rcases List.mem_cons.mp hm with q | q
          · cases q
            exact h1 rfl
          · cases q
/-- [script, 0, 0, 0] just made is a row -/
theorem row_new {F : Fz} {H : Hp} {G : Gp} {a sc : Addr} {ns : List Int} (g : Hg F H (ud G a (.sm (.lst [.ref sc, .int 0, .int 0, .int 0])))) (h0 : G a = none) (hs : ScrAt K G sc ns) : Hg F H (ud (er G sc) a (gRow K)) := by
  have hb : RowB 0 0 0 := ⟨by decide, by decide, by decide, by decide⟩
  rcases hs with hs | hw
  · have ne : sc ≠ a := fun q => by
      rw [q, h0] at hs
      cases hs
    refine Hg.close (a := a) (L := layRow K) (ps := [(a, .lst [.ref sc, .int 0, .int 0, .int 0]), (sc, .scr ns)]) g ⟨sc, ns, 0, 0, 0, hb, .inl ⟨ne, rfl⟩⟩ ⟨_, List.mem_cons_self ..⟩ (fun b o hm => ?_) fun b x e => ?_
    · rcases List.mem_cons.mp hm with q | q
      · cases q
        exact ud_same
      · rcases List.mem_cons.mp q with q | q
        · cases q
          rw [ud_ne ne]
          exact hs
        · cases q
    · by_cases h1 : b = a
      · subst h1
        rw [ud_same] at e
        cases e
        exact .inl ⟨rfl, rfl⟩
      · rw [ud_ne h1] at e
        have h2 : b ≠ sc := fun q => by
          rw [q, er_same] at e
          cases e
        rw [er_ne h2] at e
        refine .inr ⟨by rw [ud_ne h1]; exact e, fun o hm => ?_⟩
        rcases List.mem_cons.mp hm with q | q
        · cases q
          exact h1 rfl
        · rcases List.mem_cons.mp q with q | q
          · cases q
            exact h2 rfl
          · cases q
  · refine Hg.close (a := a) (L := layRow K) (ps := [(a, .lst [.ref sc, .int 0, .int 0, .int 0])]) g ⟨sc, ns, 0, 0, 0, hb, .inr ⟨hw, rfl⟩⟩ ⟨_, List.mem_cons_self ..⟩ (fun b o hm => ?_) fun b x e => ?_
    · rcases List.mem_cons.mp hm with q | q
      · cases q
        exact ud_same
      · cases q
    · by_cases h1 : b = a
      · subst h1
        rw [ud_same] at e
        cases e
        exact .inl ⟨rfl, rfl⟩
      · rw [ud_ne h1] at e
        have e2 : G b = some x := by
          unfold er at e
          split at e
          · cases e
          · exact e
        refine .inr ⟨by rw [ud_ne h1]; exact e2, fun o hm => ?_⟩
        rcases List.mem_cons.mp hm with q | q
        · cases q
          exact h1 rfl
        · cases q
/-- a draw: some number below; all stands as it was -/
def sp_L_taken (K : PySem.W.Frag) : DSp := fun ds G Q => ∃ r m, ds = [.ref r, .int m] ∧ G r = some (gRow K) ∧ 0 < m ∧ m < 1073741824 ∧ ∀ k, 0 ≤ k → k < m → Q (.int k) G
end
end Dg

namespace Dg
open PySem PySem.Spec L2
/-! ### steps of a reading -/
section
variable {s : DSt} {G : Gp} {Q : DK} {QT : Bool → Gp → Prop} {QA : List D → Gp → Prop} {E : DEnds} {t u : DS} {ta tb tc : DE} {tt tu : DT} {tr : DA} {i j : Int} {p : Addr} {ds es : List D} {d x y : D} {b : Bool} {g : DG} {N : DSt → Gp → Prop}
theorem w_seq (h : t { E with nx := vN (u E) } s G) : dSeq t u E s G := h
theorem w_next (h : E.nx s G) : dNext E s G := h
theorem w_asgN {n : Nat} (h : ta s G fun x G1 => E.nx (s.set n (some x)) G1) : dAsg ta (hName n) E s G := h
theorem w_asgT {n : Nat} {gs : DGs} (h : ta s G fun x G1 => ∃ ds, x = .tup ds ∧ ds.length = n ∧ gs ds s G1 E.nx) : dAsg ta (hTup n gs) E s G := h
theorem w_asgS {te ti : DE} {r : DSet} (h : ta s G fun v G1 => te s G1 fun o G2 => ti s G2 fun i G3 => r o i v G3 fun G4 => E.nx s G4) : dAsg ta (hSub te ti r) E s G := h
theorem w_ret (h : ta s G E.rt) : dRet ta E s G := h
theorem w_drop (h : ta s G fun _ G1 => E.nx s G1) : dDrop ta E s G := h
theorem w_ifS (h : tt s G fun b G1 => if b = true then t E s G1 else u E s G1) : dIfS tt t u E s G := h
theorem w_test (h : ta s G fun x G1 => ∃ b, x = .bl b ∧ QT b G1) : dTest ta s G QT := h
theorem w_bl (h : QT b G) : ∃ c, D.bl b = .bl c ∧ QT c G := ⟨b, rfl, h⟩
theorem w_and (h : tt s G fun c G1 => if c = true then tu s G1 QT else QT false G1) : dAnd tt tu s G QT := h
theorem w_or (h : tt s G fun c G1 => if c = true then QT true G1 else tu s G1 QT) : dOr tt tu s G QT := h
theorem w_not (h : tt s G fun c G1 => QT (!c) G1) : dNot tt s G QT := h
theorem w_andV (h : ta s G fun x G1 => ∃ c, x = .bl c ∧ if c = true then tb s G1 Q else Q (.bl false) G1) : dAndV ta tb s G Q := h
theorem w_orV (h : ta s G fun x G1 => ∃ c, x = .bl c ∧ if c = true then Q (.bl true) G1 else tb s G1 Q) : dOrV ta tb s G Q := h
theorem w_notV (h : ta s G fun x G1 => ∃ c, x = .bl c ∧ Q (.bl (!c)) G1) : dNotV ta s G Q := h
theorem w_if (h : tt s G fun c G1 => if c = true then ta s G1 Q else tb s G1 Q) : dIf tt ta tb s G Q := h
theorem w_var {n : Nat} (h : s[n]? = some (some d)) (q : Q d G) : dVar n s G Q := ⟨d, h, q⟩
theorem w_c (q : Q d G) : dC d s G Q := q
theorem w_op {r : DR2} (h : ta s G fun x G1 => tb s G1 fun y G2 => r x y G2 Q) : dOp r ta tb s G Q := h
theorem w_chain {r r' : DR2} (h : ta s G fun x G1 => tb s G1 fun y G2 => r x y G2 fun z G3 => ∃ k, z = .bl k ∧ (if k = true then tc s G3 fun w G4 => r' y w G4 Q else Q (.bl false) G3)) : dChain r r' ta tb tc s G Q := h
theorem w_nil (h : QA [] G) : dNil s G QA := h
theorem w_cons (h : ta s G fun x G1 => tr s G1 fun xs G2 => QA (x :: xs) G2) : dCons ta tr s G QA := h
theorem w_tup (h : tr s G fun ds G1 => ds.length ≤ 100000 ∧ Q (.tup ds) G1) : dTup tr s G Q := h
theorem w_lst (h : tr s G fun ds G1 => ds.length ≤ 100000 ∧ ∀ p, G1 p = none → Q (.ref p) (ud G1 p (.sm (.lst ds)))) : dLst tr s G Q := h
theorem w_len (hl : ds.length ≤ 100000) {A : Prop} (h : A) : ds.length ≤ 100000 ∧ A := ⟨hl, h⟩
theorem w_call {sp : DSp} (h : tr s G fun ds G1 => sp ds G1 Q) : dCall sp tr s G Q := h
theorem w_cb {r : List D → Gp → DK → Prop} (h : tr s G fun ds G1 => r ds G1 Q) : dCB r tr s G Q := h
theorem w_isN (h : ta s G fun x G1 => Q (.bl (isN x)) G1) : dIsN ta s G Q := h
theorem w_notN (h : ta s G fun x G1 => Q (.bl (!isN x)) G1) : dNotN ta s G Q := h
theorem w_add (q : Q (.int (i + j)) G) : eAdd (.int i) (.int j) G Q := ⟨i, j, rfl, rfl, q⟩
theorem w_sub (q : Q (.int (i - j)) G) : eSub (.int i) (.int j) G Q := ⟨i, j, rfl, rfl, q⟩
theorem w_lt (q : Q (.bl (decide (i < j))) G) : eLt (.int i) (.int j) G Q := ⟨i, j, rfl, rfl, q⟩
theorem w_le (q : Q (.bl (decide (i ≤ j))) G) : eLe (.int i) (.int j) G Q := ⟨i, j, rfl, rfl, q⟩
theorem w_gt (q : Q (.bl (decide (j < i))) G) : eGt (.int i) (.int j) G Q := ⟨i, j, rfl, rfl, q⟩
theorem w_ge (q : Q (.bl (decide (j ≤ i))) G) : eGe (.int i) (.int j) G Q := ⟨i, j, rfl, rfl, q⟩
theorem w_mod (h : 0 < j) (q : Q (.int (i % j)) G) : eMod (.int i) (.int j) G Q := ⟨i, j, rfl, rfl, h, q⟩
theorem w_div (h : 0 < j) (h2 : j < 1073741824) (q : Q (.int (i / j)) G) : eDiv (.int i) (.int j) G Q := ⟨i, j, rfl, rfl, ⟨h, h2⟩, q⟩
theorem w_mul (h : CMul i j) (q : Q (.int (i * j)) G) : eMul (.int i) (.int j) G Q := ⟨i, j, rfl, rfl, h, q⟩
theorem w_pow (h : CPow i j) (q : Q (.int (i ^ j.toNat)) G) : ePow (.int i) (.int j) G Q := ⟨i, j, rfl, rfl, h, q⟩
theorem w_eq (h : eqS x y = some b) (q : Q (.bl b) G) : eEq x y G Q := ⟨b, h, q⟩
theorem w_ne (h : eqS x y = some b) (q : Q (.bl (!b)) G) : eNe x y G Q := ⟨b, h, q⟩
theorem w_ixL (h : lstOf G x = some ds) (h2 : atI ds i = some d) (q : Q d G) : eIxL x (.int i) G Q := ⟨ds, i, d, h, rfl, h2, q⟩
theorem w_ixT (h2 : atI ds i = some d) (q : Q d G) : eIxT (.tup ds) (.int i) G Q := ⟨ds, i, d, rfl, rfl, h2, q⟩
theorem w_lenL (h : lstOf G x = some ds) (q : Q (.int (ds.length : Int)) G) : cLen [x] G Q := ⟨x, ds, rfl, .inl h, q⟩
theorem w_lenT (q : Q (.int (ds.length : Int)) G) : cLen [.tup ds] G Q := ⟨_, ds, rfl, .inr rfl, q⟩
theorem w_tupleL (h : lstOf G x = some ds) (q : Q (.tup ds) G) : cTuple [x] G Q := ⟨x, ds, rfl, .inl h, q⟩
theorem w_min2 (q : Q (.int (min i j)) G) : cMin2 [.int i, .int j] G Q := ⟨i, j, rfl, q⟩
theorem w_max2 (q : Q (.int (max i j)) G) : cMax2 [.int i, .int j] G Q := ⟨i, j, rfl, q⟩
theorem w_intB (q : Q (.int (if b then 1 else 0)) G) : cInt [.bl b] G Q := .inr ⟨b, rfl, q⟩
theorem w_bm {T : String} {r : D → List D → Gp → DK → Prop} (h : ta s G fun x G1 => tyD T G1 x ∧ tr s G1 fun xs G2 => r x xs G2 Q) : dBM T r ta tr s G Q := h
theorem w_bm0 {T : String} {r : D → List D → Gp → DK → Prop} (h : ta s G fun x G1 => tyD T G1 x ∧ r x [] G1 Q) : dBM0 T r ta s G Q := h
theorem w_ty {A : Prop} (h : lstOf G x = some ds) (q : A) : tyD "list" G x ∧ A := ⟨.inl ⟨rfl, ds, h⟩, q⟩
theorem w_append (h : G p = some (.sm (.lst ds))) (hl : ds.length < 100000) (q : Q .non (ud G p (.sm (.lst (ds ++ [y]))))) : mAppend (.ref p) [y] G Q := ⟨p, ds, y, rfl, rfl, h, hl, q⟩
theorem w_extend (h : G p = some (.sm (.lst ds))) (h2 : lstOf G y = some es) (hl : ds.length + es.length ≤ 100000) (q : Q .non (ud G p (.sm (.lst (ds ++ es))))) : mExtend (.ref p) [y] G Q := ⟨p, ds, y, es, rfl, rfl, h, h2, hl, q⟩
theorem w_setL {n : Nat} {Q1 : Gp → Prop} (h : G p = some (.sm (.lst ds))) (h2 : ixN ds.length i = some n) (q : Q1 (ud G p (.sm (.lst (ds.set n y))))) : eSetL (.ref p) (.int i) y G Q1 := ⟨p, ds, i, n, rfl, rfl, h, h2, q⟩
theorem w_iteT {A B : Prop} {c : Bool} (hc : c = true) (h : A) : if c = true then A else B := by rw [if_pos hc]; exact h
theorem w_iteF {A B : Prop} {c : Bool} (hc : c = false) (h : B) : if c = true then A else B := by rw [hc, if_neg Bool.false_ne_true]; exact h
theorem w_ite {A B : Prop} {c : Bool} (h1 : c = true → A) (h2 : c = false → B) : if c = true then A else B := by
  cases c with
  | true => exact h1 rfl
  | false => exact h2 rfl
theorem w_bl2 {P : Bool → Prop} (h : P b) : ∃ c, D.bl b = .bl c ∧ P c := ⟨b, rfl, h⟩
theorem w_hcons {gs : DGs} {Q1 : DSt → Gp → Prop} (h : g d s G fun s' G' => gs ds s' G' Q1) : hCons g gs (d :: ds) s G Q1 := ⟨d, ds, rfl, h⟩
theorem w_hnil {Q1 : DSt → Gp → Prop} (h : Q1 s G) : hNil [] s G Q1 := ⟨rfl, h⟩
theorem w_hname {n : Nat} {Q1 : DSt → Gp → Prop} (h : Q1 (s.set n (some d)) G) : hName n d s G Q1 := h
theorem w_exT {n : Nat} {gs : DGs} {Q1 : DSt → Gp → Prop} (hl : ds.length = n) (h : gs ds s G Q1) : ∃ es, D.tup ds = .tup es ∧ es.length = n ∧ gs es s G Q1 := ⟨ds, rfl, hl, h⟩
end
theorem bx_f {b : Bool} : (false ^^ b) = b := Bool.false_xor b
theorem bx_t {b : Bool} : (true ^^ b) = !b := Bool.true_xor b
/-! ### ends -/
section
variable {s s' : DSt} {G G' : Gp} {N nx bk ct : DSt → Gp → Prop} {rt Q : DK} {d : D}
theorem w_nx (h : N s G) : (DEnds.mk (vN N) rt bk ct).nx s G := vN0 h
theorem w_nx0 (h : nx s G) : (DEnds.mk nx rt bk ct).nx s G := h
theorem w_rt (h : rt d G) : (DEnds.mk nx rt bk ct).rt d G := h
theorem w_bk (h : bk s G) : (DEnds.mk nx rt bk ct).bk s G := h
theorem w_ct (h : ct s G) : (DEnds.mk nx rt bk ct).ct s G := h
/-- fewer slots are known -/
def SLe (s' s : DSt) : Prop := s'.length = s.length ∧ ∀ (i : Nat) (d : D), s'[i]? = some (some d) → s[i]? = some (some d)
theorem SLe.refl {s : DSt} : SLe s s := ⟨rfl, fun _ _ h => h⟩
theorem SLe.keep {o : Option D} (h : SLe s' s) : SLe (o :: s') (o :: s) := ⟨by simp [h.1], fun i d e => by
  cases i with
  | zero => simpa using e
  | succ i => simpa using h.2 i d (by simpa using e)⟩
theorem SLe.drop {o : Option D} (h : SLe s' s) : SLe (none :: s') (o :: s) := ⟨by simp [h.1], fun i d e => by
  cases i with
  | zero => simp at e
  | succ i => simpa using h.2 i d (by simpa using e)⟩
theorem vN_le (hs : SLe s' s) (hk : ∀ a x, G' a = some x → G a = some x) (h : N s' G') : vN N s G := fun F H σ i g =>
  ⟨F, s', G', Ext.refl F H, ⟨hs.1.trans i.1, fun j d e => i.2 j d (hs.2 j d e)⟩, g.mono hk, h⟩
theorem w_vle (hs : SLe s' s) (hk : ∀ a x, G' a = some x → G a = some x) (h : N s' G') : (DEnds.mk (vN N) rt bk ct).nx s G := vN_le hs hk h
end
/-! ### the view of a value is shifted -/
section
variable {X : Cx}
def dFz (t : DE) : DE := fun s G Q => t s G (vR Q)
theorem qe_fz {e : Expr} {t : DE} (h : QE X e t) : QE X e (dFz t) := PE.weak h fun σ H Q z => by
  obtain ⟨F, s, G, Q', hs, hg, h, k⟩ := z
  exact ⟨F, s, G, _, hs, hg, h, k.vR⟩
theorem w_fz {t : DE} {s : DSt} {G : Gp} {Q : DK} (h : t s G (vR Q)) : dFz t s G Q := h
/-- a new list is given up -/
theorem vR_frz {G : Gp} {Q : DK} {p : Addr} {ds : List D} (hp : G p = none) (h : Q (.lst ds) G) : vR Q (.ref p) (ud G p (.sm (.lst ds))) := by
  refine vR_vs (VS1.frz (ud_same)) ?_
  rw [er_ud hp]
  exact h
theorem vR_frz' {G : Gp} {Q : DK} {p : Addr} {ds : List D} (hp : G p = some (.sm (.lst ds))) (h : Q (.lst ds) (er G p)) : vR Q (.ref p) G := vR_vs (VS1.frz hp) h
end
/-! ### loops by a state -/
section
variable {s : DSt} {G : Gp} {E : DEnds} {n : Nat} {item : Nat → D → Prop} {Ok : Gp → Prop} {g : DG} {tb : DS}
def Ends (σ : Type) (W : σ → Prop) (S : σ → DSt) (GG : σ → Gp) : DSt → Gp → Prop := fun s G => ∃ a, W a ∧ s = S a ∧ G = GG a
def vE (σ : Type) (W : σ → Prop) (S : σ → DSt) (GG : σ → Gp) : DSt → Gp → Prop := vN (Ends σ W S GG)
theorem for_st {σ : Type} (W : Nat → σ → Prop) (S : σ → DSt) (GG : σ → Gp) (a0 : σ) (w0 : W 0 a0) (hs : s = S a0) (hG : G = GG a0) (hok : ∀ i a, i ≤ n → W i a → Ok (GG a))
    (hst : ∀ i d a, i < n → item i d → W i a → g d (S a) (GG a) fun s2 G2 => tb ⟨vE σ (W (i + 1)) S GG, E.rt, E.nx, vE σ (W (i + 1)) S GG⟩ s2 G2)
    (hd : ∀ a, W n a → E.nx (S a) (GG a)) : dForC n item Ok g tb E s G := by
  refine ⟨fun i => Ends σ (W i) S GG, ⟨a0, w0, hs, hG⟩, ?_, ?_, ?_⟩
  · rintro i _ _ hi ⟨a, w, rfl, rfl⟩
    exact hok i a hi w
  · rintro i d _ _ hi hit ⟨a, w, rfl, rfl⟩
    exact hst i d a hi hit w
  · rintro _ _ ⟨a, w, rfl, rfl⟩
    exact hd a w
theorem w_st {σ : Type} {W : σ → Prop} {S : σ → DSt} {GG : σ → Gp} (a : σ) (w : W a) (hs : SLe (S a) s) (hk : ∀ b x, GG a b = some x → G b = some x) : vE σ W S GG s G :=
  vN_le hs hk ⟨a, w, rfl, rfl⟩
theorem w_se {σ : Type} {W : σ → Prop} {S : σ → DSt} {GG : σ → Gp} (a : σ) (w : W a) (hs : SLe (S a) s) (hk : G = GG a) : vE σ W S GG s G :=
  vN_le hs (fun _ _ h => by rw [hk]; exact h) ⟨a, w, rfl, rfl⟩
theorem while_st {c : DT} {σ : Type} (W : Nat → σ → Prop) (S : σ → DSt) (GG : σ → Gp) (m0 : Nat) (a0 : σ) (w0 : W m0 a0) (hs : s = S a0) (hG : G = GG a0)
    (hst : ∀ m a, W m a → c (S a) (GG a) fun b G1 => if b = true then tb ⟨vE σ (fun a' => ∃ m', m' < m ∧ W m' a') S GG, E.rt, E.nx, vE σ (fun a' => ∃ m', m' < m ∧ W m' a') S GG⟩ (S a) G1 else E.nx (S a) G1) : dWhile c tb E s G := by
  refine ⟨fun m => Ends σ (W m) S GG, ⟨m0, a0, w0, hs, hG⟩, ?_⟩
  rintro m _ _ ⟨a, w, rfl, rfl⟩
  have e : (fun s' G' => ∃ m', m' < m ∧ Ends σ (W m') S GG s' G') = Ends σ (fun a' => ∃ m', m' < m ∧ W m' a') S GG := by
    funext s' G'
    refine propext ⟨?_, ?_⟩
    · rintro ⟨m', h, a', w', h1, h2⟩
      exact ⟨a', ⟨m', h, w'⟩, h1, h2⟩
    · rintro ⟨a', ⟨m', h, w'⟩, h1, h2⟩
      exact ⟨m', h, a', w', h1, h2⟩
  have z := hst m a w
  unfold vE at z
  rw [← e] at z
  exact z
end
/-- a comprehension whose parts change nothing; R: what is told so far -/
theorem lc_rel {n : Nat} {item : Nat → D → Prop} {Ok : Gp → Prop} {c : CT} {tt : DT} {te : DE} {vs : List Nat} {s : DSt} {G : Gp} {Q : DK} (R : Nat → List D → Prop) (hn : n ≤ 50000) (r0 : R 0 []) (hOk : ∀ p acc, G p = none → Ok (ud G p (.sm (.lst acc))))
    (hst : ∀ i d p acc (N : DK) (M : Gp → Prop), i < n → item i d → G p = none → R i acc → (∀ y, R (i + 1) (acc ++ [y]) → N y (ud G p (.sm (.lst acc)))) → (R (i + 1) acc → M (ud G p (.sm (.lst acc)))) →
      c.put d (wipeD s vs) fun s2 => tt s2 (ud G p (.sm (.lst acc))) fun b G3 => if b = true then te s2 G3 N else M G3)
    (hd : ∀ p acc, G p = none → R n acc → Q (.ref p) (ud G p (.sm (.lst acc)))) : dLcC n item Ok c tt te vs s G Q := by
  intro p hp
  refine ⟨fun i G' => ∃ acc, R i acc ∧ acc.length ≤ i ∧ G' = ud G p (.sm (.lst acc)), ⟨[], r0, Nat.le_refl _, rfl⟩, ?_, ?_, ?_⟩
  · rintro i _ hi ⟨acc, _, _, rfl⟩
    exact hOk p acc hp
  · rintro i d _ hi hit ⟨acc, hr, hl, rfl⟩
    refine hst i d p acc _ _ hi hit hp hr (fun y hy => ⟨acc, ud_same, by omega, vG0 ⟨acc ++ [y], hy, ?_, ud_ud⟩⟩) fun hy => vG0 ⟨acc, hy, by omega, rfl⟩
    rw [List.length_append]
    exact Nat.succ_le_succ hl
  · rintro _ ⟨acc, hr, _, rfl⟩
    exact hd p acc hp hr
/-- the same, by a function of the place -/
theorem lc_pure {n : Nat} {item : Nat → D → Prop} {Ok : Gp → Prop} {c : CT} {tt : DT} {te : DE} {vs : List Nat} {s : DSt} {G : Gp} {Q : DK} (f : Nat → Option D) (hn : n ≤ 50000) (hOk : ∀ p acc, G p = none → Ok (ud G p (.sm (.lst acc))))
    (hst : ∀ i d p acc (N : DK) (M : Gp → Prop), i < n → item i d → G p = none → (∀ y, f i = some y → N y (ud G p (.sm (.lst acc)))) → (f i = none → M (ud G p (.sm (.lst acc)))) → c.put d (wipeD s vs) fun s2 => tt s2 (ud G p (.sm (.lst acc))) fun b G3 => if b = true then te s2 G3 N else M G3)
    (hd : ∀ p, G p = none → Q (.ref p) (ud G p (.sm (.lst ((List.range n).filterMap f))))) : dLcC n item Ok c tt te vs s G Q := by
  refine lc_rel (fun i acc => acc = (List.range i).filterMap f) hn rfl hOk (fun i d p acc N M hi hit hp hr hN hM => ?_) fun p acc hp hr => by rw [hr]; exact hd p hp
  refine hst i d p acc N M hi hit hp (fun y hy => hN y ?_) fun hy => hM ?_
  · rw [hr, List.range_succ, List.filterMap_append, List.filterMap_cons, hy]
    rfl
  · rw [hr, List.range_succ, List.filterMap_append, List.filterMap_cons, hy]
    simp
end Dg

namespace Dg
open PySem PySem.Spec L2
/-! ### more steps -/
section
variable {K : PySem.W.Frag} {s : DSt} {G : Gp} {Q : DK} {QT : Bool → Gp → Prop} {QA : List D → Gp → Prop} {E : DEnds} {t u : DS} {ta tb tc : DE} {tt tu : DT} {tr : DA} {i j : Int} {p r sc : Addr} {ds es : List D} {d e x y : D} {b neg : Bool} {g : DG} {N : DSt → Gp → Prop} {ns : List Int} {c : CT} {vs : List Nat} {te : DE}
theorem w_lenS (h : ScrAt K G sc ns) (q : Q (.int (ns.length : Int)) G) : cLenS K [.ref sc] G Q := ⟨sc, ns, rfl, h, q⟩
theorem w_ixS {n : Int} (h : ScrAt K G sc ns) (h2 : atI ns i = some n) (q : Q (.int n) G) : eIxS K (.ref sc) (.int i) G Q := ⟨sc, ns, i, n, rfl, h, rfl, h2, q⟩
theorem w_taken {m : Int} (hr : G r = some (gRow K)) (h0 : 0 < m) (h1 : m < 1073741824) (q : ∀ k, 0 ≤ k → k < m → Q (.int k) G) : sp_L_taken K [.ref r, .int m] G Q := ⟨r, m, rfl, hr, h0, h1, q⟩
theorem w_lcR1 (h : tr s G fun ds G1 => ∃ j : Int, ds = [.int j] ∧ (-(2 ^ 62) ≤ j ∧ j < 2 ^ 62) ∧ dLcC j.toNat (fun i d => d = .int (0 + (i : Int))) (fun _ => True) c tt te vs s G1 Q) : dLcR1 tr c tt te vs s G Q := h
theorem w_lcL (h : ta s G fun x G1 => ∃ ds, lstOf G1 x = some ds ∧ dLcC ds.length (fun i d => ds[i]? = some d) (fun G => lstOf G x = some ds) c tt te vs s G1 Q) : dLcL ta c tt te vs s G Q := h
theorem w_lcT (h : ta s G fun x G1 => ∃ ds, x = .tup ds ∧ dLcC ds.length (fun i d => ds[i]? = some d) (fun _ => True) c tt te vs s G1 Q) : dLcT ta c tt te vs s G Q := h
theorem w_exI {P : Int → Prop} (hb : -(2 ^ 62) ≤ j ∧ j < 2 ^ 62) (h : P j) : ∃ k : Int, [D.int j] = [.int k] ∧ (-(2 ^ 62) ≤ k ∧ k < 2 ^ 62) ∧ P k := ⟨j, rfl, hb, h⟩
theorem w_exI2 {P : Int → Int → Prop} (hb : -(2 ^ 62) ≤ i ∧ i < 2 ^ 62 ∧ -(2 ^ 62) ≤ j ∧ j < 2 ^ 62) (h : P i j) : ∃ k l : Int, [D.int i, .int j] = [.int k, .int l] ∧ (-(2 ^ 62) ≤ k ∧ k < 2 ^ 62 ∧ -(2 ^ 62) ≤ l ∧ l < 2 ^ 62) ∧ P k l := ⟨i, j, rfl, hb, h⟩
theorem w_exL {P : List D → Prop} (hl : lstOf G x = some ds) (h : P ds) : ∃ es, lstOf G x = some es ∧ P es := ⟨ds, hl, h⟩
theorem w_exTu {P : List D → Prop} (h : P ds) : ∃ es, D.tup ds = .tup es ∧ P es := ⟨ds, rfl, h⟩
theorem w_forR1 (h : tr s G fun ds G1 => ∃ j : Int, ds = [.int j] ∧ (-(2 ^ 62) ≤ j ∧ j < 2 ^ 62) ∧ dForC j.toNat (fun i d => d = .int (0 + (i : Int))) (fun _ => True) g t E s G1) : dForR1 tr g t E s G := h
theorem w_forR2 (h : tr s G fun ds G1 => ∃ i j : Int, ds = [.int i, .int j] ∧ (-(2 ^ 62) ≤ i ∧ i < 2 ^ 62 ∧ -(2 ^ 62) ≤ j ∧ j < 2 ^ 62) ∧ dForC (j - i).toNat (fun k d => d = .int (i + (k : Int))) (fun _ => True) g t E s G1) : dForR2 tr g t E s G := h
theorem w_forL (h : ta s G fun x G1 => ∃ ds, lstOf G1 x = some ds ∧ dForC ds.length (fun i d => ds[i]? = some d) (fun G => lstOf G x = some ds) g t E s G1) : dForL ta g t E s G := h
theorem w_forT (h : ta s G fun x G1 => ∃ ds, x = .tup ds ∧ dForC ds.length (fun i d => ds[i]? = some d) (fun _ => True) g t E s G1) : dForT ta g t E s G := h
theorem w_cnm {n : Nat} {Q1 : DSt → Prop} (h : Q1 (s.set n (some d))) : (CT.nm n).put d s Q1 := h
theorem w_ctp {is : List Nat} {Q1 : DSt → Prop} (hl : ds.length = is.length) (h : Q1 (setN s is ds)) : (CT.tp is).put (.tup ds) s Q1 := ⟨ds, rfl, hl, h⟩
theorem w_htup {n : Nat} {gs : DGs} {Q1 : DSt → Gp → Prop} (hl : ds.length = n) (h : gs ds s G Q1) : hTup n gs (.tup ds) s G Q1 := ⟨ds, rfl, hl, h⟩
theorem w_yes (h : QT true G) : dYes s G QT := h
theorem w_eqD (hx : valOf G x = some d) (hy : valOf G y = some e) (pd : pl 9 d = true) (pe : pl 9 e = true) (q : ∀ b : Bool, (b = true ↔ d = e) → Q (.bl b) G) : eEqD x y G Q := ⟨d, e, hx, hy, pd, pe, q⟩
theorem w_neD (hx : valOf G x = some d) (hy : valOf G y = some e) (pd : pl 9 d = true) (pe : pl 9 e = true) (q : ∀ b : Bool, (b = true ↔ d = e) → Q (.bl (!b)) G) : eNeD x y G Q := ⟨d, e, hx, hy, pd, pe, q⟩
theorem w_inD (hl : lstOf G y = some ds) (px : pl 9 x = true) (pd : ds.all (pl 8) = true) (q : ∀ b : Bool, (b = true ↔ x ∈ ds) → Q (.bl (neg ^^ b)) G) : eInD neg x y G Q := ⟨ds, hl, px, pd, q⟩
theorem w_inFL (hl : lstOf G y = some ds) (px : flD x = true) (pd : ds.all flD = true) (q : ∀ b : Bool, (b = true ↔ x ∈ ds) → Q (.bl (neg ^^ b)) G) : eInF neg x y G Q := ⟨ds, .inl hl, px, pd, q⟩
theorem w_inFT (px : flD x = true) (pd : ds.all flD = true) (q : ∀ b : Bool, (b = true ↔ x ∈ ds) → Q (.bl (neg ^^ b)) G) : eInF neg x (.tup ds) G Q := ⟨ds, .inr rfl, px, pd, q⟩
theorem w_cat (hx : lstOf G x = some ds) (hy : lstOf G y = some es) (hl : ds.length + es.length ≤ 100000) (q : ∀ p, G p = none → Q (.ref p) (ud G p (.sm (.lst (ds ++ es))))) : eCat x y G Q := ⟨ds, es, hx, hy, hl, q⟩
theorem w_catT (hl : ds.length + es.length ≤ 100000) (q : Q (.tup (ds ++ es)) G) : eCatT (.tup ds) (.tup es) G Q := ⟨ds, es, rfl, rfl, hl, q⟩
theorem w_listL (h : lstOf G x = some ds) (q : ∀ p, G p = none → Q (.ref p) (ud G p (.sm (.lst ds)))) : cList [x] G Q := ⟨x, ds, rfl, .inl h, q⟩
theorem w_listT (q : ∀ p, G p = none → Q (.ref p) (ud G p (.sm (.lst ds)))) : cList [.tup ds] G Q := ⟨_, ds, rfl, .inr rfl, q⟩
theorem w_insert (h : G p = some (.sm (.lst ds))) (hl : ds.length < 100000) (h0 : 0 ≤ i) (h1 : i < 2 ^ 62) (q : Q .non (ud G p (.sm (.lst (ds.take i.toNat ++ [y] ++ ds.drop i.toNat))))) : mInsert (.ref p) [.int i, y] G Q := ⟨p, ds, i, y, rfl, rfl, h, hl, h0, h1, q⟩
theorem w_pop (h : G p = some (.sm (.lst ds))) (h2 : ds[ds.length - 1]? = some y) (q : Q y (ud G p (.sm (.lst ds.dropLast)))) : mPop (.ref p) [] G Q := ⟨p, ds, y, rfl, rfl, h, h2, q⟩
theorem w_popAt (h : G p = some (.sm (.lst ds))) (h0 : 0 ≤ i) (h1 : i < 2 ^ 62) (h2 : ds[i.toNat]? = some y) (q : Q y (ud G p (.sm (.lst (ds.eraseIdx i.toNat))))) : mPopAt (.ref p) [.int i] G Q := ⟨p, ds, i, y, rfl, rfl, h, h0, h1, h2, q⟩
def eIxA : DR2 := fun x y G Q => eIxL x y G Q ∨ eIxT x y G Q
theorem ix_any {X : Cx} : IxR X (fun x y H Q => rIxL X.K x y H Q ∨ rIxT X.K x y H Q) := ix_list.or ix_tup
theorem sr_ixA {K : PySem.W.Frag} : SR (fun x y H Q => rIxL K x y H Q ∨ rIxT K x y H Q) eIxA := by
  rintro F H G x y dx dy Q Q' hG ix iy h k
  rcases h with h | h
  · exact .inl (sr_ixL F H G x y dx dy Q Q' hG ix iy h k)
  · exact .inr (sr_ixT F H G x y dx dy Q Q' hG ix iy h k)
theorem w_lc {n : Nat} : True := trivial
/-! dicts -/
theorem w_dget (h : ta s G fun x G1 => tb s G1 fun y G2 => ∃ d, LK G2 x y (some d) ∧ Q d G2) : dDGet ta tb s G Q := h
theorem w_din (h : ta s G fun y G1 => tb s G1 fun x G2 => ∃ o, LK G2 x y o ∧ Q (.bl (neg ^^ o.isSome)) G2) : dDIn neg ta tb s G Q := h
theorem w_dget1 (h : ta s G fun x G1 => isDG G1 x ∧ tb s G1 fun y G2 => ∃ o, LK G2 x y o ∧ Q (o.getD .non) G2) : dDGet1 ta tb s G Q := h
theorem w_dpop1 (h : ta s G fun x G1 => isDG G1 x ∧ tb s G1 fun y G2 => ∃ p kvs k d, x = .ref p ∧ G2 p = some (.sm (.dK kvs)) ∧ keyD y = some k ∧ valD kvs k = some d ∧ Q d (ud G2 p (.sm (.dK (dropD kvs k))))) : dDPop1 ta tb s G Q := h
theorem w_dput (h : tc s G fun v G1 => ta s G1 fun x G2 => tb s G2 fun y G3 => PT0 G3 x y v fun G4 => E.nx s G4) : dDPut ta tb tc E s G := h
theorem w_lkK {P : D → Prop} {kvs : List (Key × D)} {k : Key} (h : dKG (G p) = some kvs) (hk : keyD y = some k) (hv : valD kvs k = some d) (q : P d) : ∃ d, LK G (.ref p) y (some d) ∧ P d := ⟨d, hv ▸ LK.k h hk, q⟩
theorem w_lkT {P : D → Prop} {kvs : List (List Key × D)} {k : List Key} (h : dTG (G p) = some kvs) (hk : keyT y = some k) (hv : valD kvs k = some d) (q : P d) : ∃ d, LK G (.ref p) y (some d) ∧ P d := ⟨d, hv ▸ LK.t h hk, q⟩
theorem w_inK {P : Option D → Prop} {kvs : List (Key × D)} {k : Key} (h : dKG (G p) = some kvs) (hk : keyD y = some k) (q : P (valD kvs k)) : ∃ o, LK G (.ref p) y o ∧ P o := ⟨_, LK.k h hk, q⟩
theorem w_inT {P : Option D → Prop} {kvs : List (List Key × D)} {k : List Key} (h : dTG (G p) = some kvs) (hk : keyT y = some k) (q : P (valD kvs k)) : ∃ o, LK G (.ref p) y o ∧ P o := ⟨_, LK.t h hk, q⟩
theorem w_isK {A : Prop} {kvs : List (Key × D)} (h : dKG (G p) = some kvs) (q : A) : isDG G (.ref p) ∧ A := ⟨⟨p, rfl, .inl ⟨kvs, h⟩⟩, q⟩
theorem w_isT {A : Prop} {kvs : List (List Key × D)} (h : dTG (G p) = some kvs) (q : A) : isDG G (.ref p) ∧ A := ⟨⟨p, rfl, .inr ⟨kvs, h⟩⟩, q⟩
theorem w_putK {P : Gp → Prop} {kvs : List (Key × D)} {k : Key} (h : G p = some (.sm (.dK kvs))) (hk : keyD y = some k) (hl : kvs.length < 100000) (q : P (ud G p (.sm (.dK (putD kvs k x))))) : PT0 G (.ref p) y x P := .inl ⟨p, kvs, k, rfl, h, hk, hl, q⟩
theorem w_putT {P : Gp → Prop} {kvs : List (List Key × D)} {k : List Key} (h : G p = some (.sm (.dT kvs))) (hk : keyT y = some k) (hl : kvs.length < 100000) (q : P (ud G p (.sm (.dT (putD kvs k x))))) : PT0 G (.ref p) y x P := .inr ⟨p, kvs, k, rfl, h, hk, hl, q⟩
theorem w_newK (q : ∀ p, G p = none → Q (.ref p) (ud G p (.sm (.dK [])))) : dNewK s G Q := q
theorem w_newT (q : ∀ p, G p = none → Q (.ref p) (ud G p (.sm (.dT [])))) : dNewT s G Q := q
theorem w_disp {trs : List (DE × DE)} (h : ∀ p, G p = none → dPairs trs s (ud G p (.sm (.dK []))) fun ps G2 => G2 p = some (.sm (.dK [])) ∧ ∃ kvs, keysD ps = some kvs ∧ kvs.length ≤ 15 ∧ Q (.ref p) (ud G2 p (.sm (.dK (mergeD [] kvs))))) : dDisp trs s G Q := h
theorem w_pnil {QP : List (D × D) → Gp → Prop} (h : QP [] G) : dPairs [] s G QP := h
theorem w_pcons {QP : List (D × D) → Gp → Prop} {trs : List (DE × DE)} (h : ta s G fun x G1 => tb s G1 fun y G2 => dPairs trs s G2 fun ps G3 => QP ((x, y) :: ps) G3) : dPairs ((ta, tb) :: trs) s G QP := h
theorem w_dispE {ps : List (D × D)} {kvs : List (Key × D)} {P : List (Key × D) → Prop} (h1 : G p = some (.sm (.dK []))) (h2 : keysD ps = some kvs) (h3 : kvs.length ≤ 15) (q : P kvs) : G p = some (.sm (.dK [])) ∧ ∃ kvs, keysD ps = some kvs ∧ kvs.length ≤ 15 ∧ P kvs := ⟨h1, kvs, h2, h3, q⟩
theorem w_isi2 {T T2 : String} (h : ta s G fun x G1 => ∃ U b b2, tyN G1 x = some U ∧ kitB U T = some b ∧ kitB U T2 = some b2 ∧ Q (.bl (b || b2)) G1) : dIsi2 T T2 ta s G Q := h
theorem w_isiE {T U : String} {P : Bool → Prop} (h1 : tyN G x = some U) (h2 : kitB U T = some b) (q : P b) : ∃ U b, tyN G x = some U ∧ kitB U T = some b ∧ P b := ⟨U, b, h1, h2, q⟩
theorem w_isiE2 {T T2 U : String} {P : Bool → Bool → Prop} {b2 : Bool} (h1 : tyN G x = some U) (h2 : kitB U T = some b) (h3 : kitB U T2 = some b2) (q : P b b2) : ∃ U b b2, tyN G x = some U ∧ kitB U T = some b ∧ kitB U T2 = some b2 ∧ P b b2 := ⟨U, b, b2, h1, h2, h3, q⟩
theorem w_isi {T : String} (h : ta s G fun x G1 => ∃ U b, tyN G1 x = some U ∧ kitB U T = some b ∧ Q (.bl b) G1) : dIsi T ta s G Q := h
theorem w_lenSet (h : ta s G fun x G1 => ∃ ns : List Int, lstOf G1 x = some (ns.map D.int) ∧ ns.length < 64 ∧ ns.Nodup ∧ Q (.int (ns.length : Int)) G1) : dLenSet ta s G Q := h
theorem w_listRng (h : ta s G fun y G1 => ∃ n : Int, y = .int n ∧ 0 ≤ n ∧ n ≤ 100000 ∧ ∀ p, G1 p = none → Q (.ref p) (ud G1 p (.sm (.lst ((List.range n.toNat).map fun (i : Nat) => D.int (i : Int)))))) : dListRng ta s G Q := h
theorem w_notInRng (h : ta s G fun x G1 => tb s G1 fun y G2 => ∃ i n : Int, x = .int i ∧ y = .int n ∧ Q (.bl (!decide (0 ≤ i ∧ i < n))) G2) : dNotInRng ta tb s G Q := h
theorem w_exII {P : Int → Int → Prop} (h : P i j) : ∃ k l : Int, D.int i = .int k ∧ D.int j = .int l ∧ P k l := ⟨i, j, rfl, rfl, h⟩
end
theorem kb_tu_tu : kitB "tuple" "tuple" = some true := by decide +kernel
theorem kb_tu_li : kitB "tuple" "list" = some false := by decide +kernel
theorem kb_tu_bo : kitB "tuple" "bool" = some false := by decide +kernel
theorem kb_tu_st : kitB "tuple" "str" = some false := by decide +kernel
theorem kb_tu_in : kitB "tuple" "int" = some false := by decide +kernel
theorem kb_li_tu : kitB "list" "tuple" = some false := by decide +kernel
theorem kb_li_li : kitB "list" "list" = some true := by decide +kernel
theorem kb_li_bo : kitB "list" "bool" = some false := by decide +kernel
theorem kb_li_st : kitB "list" "str" = some false := by decide +kernel
theorem kb_li_in : kitB "list" "int" = some false := by decide +kernel
theorem kb_No_tu : kitB "NoneType" "tuple" = some false := by decide +kernel
theorem kb_No_li : kitB "NoneType" "list" = some false := by decide +kernel
theorem kb_No_bo : kitB "NoneType" "bool" = some false := by decide +kernel
theorem kb_No_st : kitB "NoneType" "str" = some false := by decide +kernel
theorem kb_No_in : kitB "NoneType" "int" = some false := by decide +kernel
theorem kb_bo_tu : kitB "bool" "tuple" = some false := by decide +kernel
theorem kb_bo_li : kitB "bool" "list" = some false := by decide +kernel
theorem kb_bo_bo : kitB "bool" "bool" = some true := by decide +kernel
theorem kb_bo_st : kitB "bool" "str" = some false := by decide +kernel
theorem kb_bo_in : kitB "bool" "int" = some true := by decide +kernel
theorem kb_in_tu : kitB "int" "tuple" = some false := by decide +kernel
theorem kb_in_li : kitB "int" "list" = some false := by decide +kernel
theorem kb_in_bo : kitB "int" "bool" = some false := by decide +kernel
theorem kb_in_st : kitB "int" "str" = some false := by decide +kernel
theorem kb_in_in : kitB "int" "int" = some true := by decide +kernel
theorem kb_st_tu : kitB "str" "tuple" = some false := by decide +kernel
theorem kb_st_li : kitB "str" "list" = some false := by decide +kernel
theorem kb_st_bo : kitB "str" "bool" = some false := by decide +kernel
theorem kb_st_st : kitB "str" "str" = some true := by decide +kernel
theorem kb_st_in : kitB "str" "int" = some false := by decide +kernel
def stD (n : Nat) (ds : List D) : DSt := ds.map some ++ List.replicate (n - ds.length) none
/-- what is returned -/
def vRt (Q : DK) : DK := vR Q
/-- a body keeps a promise -/
def Rd (n : Nat) (b : DS) (sp : DSp) : Prop := ∀ ds G Q, sp ds G Q → vN (b { nx := fun _ G' => vRt Q .non G', rt := vRt Q }) (stD n ds) G
theorem fm_range {α β : Type} (f : α → Option β) : ∀ xs : List α, (List.range xs.length).filterMap (fun i => xs[i]?.bind f) = xs.filterMap f
  | [] => rfl
  | x :: xs => by
    rw [List.length_cons, List.range_succ_eq_map, List.filterMap_cons, List.filterMap_cons, List.filterMap_map]
    have e : ((fun i => (x :: xs)[i]?.bind f) ∘ Nat.succ) = fun i => xs[i]?.bind f := by
      funext i
      simp
    rw [e, fm_range f xs]
    simp
/-- a comprehension over a list of data -/
theorem lc_over {α : Type} {xs : List α} {φ : α → D} {Ok : Gp → Prop} {c : CT} {tt : DT} {te : DE} {vs : List Nat} {s : DSt} {G : Gp} {Q : DK} (f : α → Option D) (hn : xs.length ≤ 50000) (hOk : ∀ p acc, G p = none → Ok (ud G p (.sm (.lst acc))))
    (hst : ∀ x p acc (N : DK) (M : Gp → Prop), x ∈ xs → G p = none → (∀ y, f x = some y → N y (ud G p (.sm (.lst acc)))) → (f x = none → M (ud G p (.sm (.lst acc)))) → c.put (φ x) (wipeD s vs) fun s2 => tt s2 (ud G p (.sm (.lst acc))) fun b G3 => if b = true then te s2 G3 N else M G3)
    (hd : ∀ p, G p = none → Q (.ref p) (ud G p (.sm (.lst (xs.filterMap f))))) : dLcC (xs.map φ).length (fun i d => (xs.map φ)[i]? = some d) Ok c tt te vs s G Q := by
  refine lc_pure (fun i => xs[i]?.bind f) (by rw [List.length_map]; exact hn) hOk ?_ ?_
  · intro i d p acc N M hi hit hp hN hM
    rw [List.length_map] at hi
    rw [List.getElem?_map, List.getElem?_eq_getElem hi] at hit
    have hit : φ xs[i] = d := Option.some.inj hit
    subst hit
    rw [List.getElem?_eq_getElem hi, Option.bind_some] at hN hM
    exact hst xs[i] p acc N M (List.getElem_mem hi) hp hN hM
  · intro p hp
    rw [List.length_map, fm_range]
    exact hd p hp
/-- another list stays when a new one comes -/
theorem lstOf_new {G : Gp} {x : D} {ds : List D} {p : Addr} {o : GO} (hx : lstOf G x = some ds) (hp : G p = none) : lstOf (ud G p o) x = some ds := by
  cases x with
  | ref z =>
    refine lst_ref ((ud_ne ?_).trans (lst_own hx))
    rintro rfl
    have := lst_own hx
    rw [hp] at this
    cases this
  | _ => exact hx
theorem vR_vR {Q : DK} {d : D} {G : Gp} (h : vR (vR Q) d G) : vR Q d G := fun F H v i g => by
  obtain ⟨F1, d1, G1, e1, i1, g1, q1⟩ := h F H v i g
  obtain ⟨F3, d3, G3, e3, i3, g3, q3⟩ := q1 F1 H v i1 g1
  exact ⟨F3, d3, G3, e1.trans e3, i3, g3, q3⟩
/-- [script, 0, 0, 0] is the row -/
theorem vR_row {K : PySem.W.Frag} {G : Gp} {Q : DK} {sc : Addr} {ns : List Int} (hs : ScrAt K G sc ns) (h : ∀ p, er G sc p = none → Q (.ref p) (ud (er G sc) p (gRow K))) : ∀ p, G p = none → vR Q (.ref p) (ud G p (.sm (.lst [.ref sc, .int 0, .int 0, .int 0]))) := fun p hp => by
  refine vR_to (fun F H g => row_new g hp hs) (h p ?_)
  unfold er
  split
  · rfl
  · exact hp
theorem frz_let {G : Gp} {Q : DK} {ds : List D} (h : Q (.lst ds) G) : ∀ p, G p = none → vR Q (.ref p) (ud G p (.sm (.lst ds))) := fun p hp => vR_frz hp h
theorem atI_pos {α : Type} {xs : List α} {i : Int} (h0 : 0 ≤ i) (h1 : i < xs.length) : atI xs i = xs[i.toNat]? := by
  unfold atI ixN
  rw [if_pos h0, if_pos h1]
  rfl
theorem ixN_pos {n : Nat} {i : Int} (h0 : 0 ≤ i) (h1 : i < n) : ixN n i = some i.toNat := by
  unfold ixN
  rw [if_pos h0, if_pos h1]
end Dg

namespace Dg
open PySem PySem.Spec L2
section
variable {X : Cx} {K : PySem.W.Frag}
/-! ### instances -/
theorem IsP.lookup {F : Fz} {H : Hp} {f : Str} : ∀ {fs : List (Str × D)} {gs : List (Str × V)}, IsP F H fs gs → RelOD F H (fs.lookup f) (gs.lookup f)
  | _, _, .nil => trivial
  | (g, d) :: r, (g', v) :: t, .cons h hs => by
    obtain ⟨rfl, hd⟩ : g = g' ∧ Is F H d v := h
    rw [List.lookup_cons, List.lookup_cons]
    cases f == g with
    | true => exact hd
    | false => exact IsP.lookup hs
def putFD (f : Str) (d : D) : List (Str × D) → List (Str × D)
  | [] => [(f, d)]
  | (g, x) :: r => if g = f then (g, d) :: r else (g, x) :: putFD f d r
theorem putFD_rel {F : Fz} {H : Hp} {f : Str} {d : D} {v : V} (hd : Is F H d v) : ∀ {fs : List (Str × D)} {gs : List (Str × V)}, IsP F H fs gs → IsP F H (putFD f d fs) (putF f v gs)
  | _, _, .nil => .cons ⟨rfl, hd⟩ .nil
  | (g, x) :: r, (g', y) :: t, .cons h hs => by
    obtain ⟨rfl, hx⟩ : g = g' ∧ Is F H x y := h
    unfold putFD putF
    by_cases e : g = f
    · rw [if_pos e, if_pos e]
      exact .cons ⟨rfl, hd⟩ hs
    · rw [if_neg e, if_neg e]
      exact .cons ⟨rfl, hx⟩ (putFD_rel hd hs)
/-- o.f -/
def dFld (C : Addr) (f : Str) (t : DE) : DE := fun s G Q => t s G fun x G1 => ∃ p dx fs d, x = .ref p ∧ G1 p = some (.sm (.ins C dx fs)) ∧ fs.lookup f = some d ∧ Q d G1
theorem qe_fld {C : Addr} {e : Expr} {f : Str} {pos : Pos} {t : DE} (c : Cls X.K C) (n : NoAttr X.K C f) (he : QE X e t) (hb : attributeBase e f X.env (eval e X.env) = eval e X.env := by rfl) : QE X (.Attribute e f pos) (dFld C f t) := PE.weak (pe_fld he hb) fun σ H Q h => by
  obtain ⟨F, s, G, Q', hs, hg, h, k⟩ := h
  refine lE_b hs hg h fun v H1 F1 d G1 e1 s1 g1 i1 ⟨p, dx, fs, d2, hx, hp, hl, q⟩ => ?_
  subst hx
  obtain ⟨z, hz, gs, rfl, hf⟩ := g1.get hp
  have hr := IsP.lookup (f := f) hf
  rw [hl] at hr
  cases hv : gs.lookup f with
  | none => rw [hv] at hr; exact hr.elim
  | some w =>
    rw [hv] at hr
    exact ⟨p, C, dx, gs, w, is_ref.mp i1, hz, c, n, hv, k _ H1 F1 _ G1 e1 g1 hr q⟩
/-- o.f = v -/
def dFldS (C : Addr) (f : Str) (to tv : DE) : DS := fun E s G => tv s G fun y G1 => to s G1 fun x G2 => ∃ p dx fs, x = .ref p ∧ G2 p = some (.sm (.ins C dx fs)) ∧ fs.length < 1000 ∧ E.nx s (ud G2 p (.sm (.ins C dx (putFD f y fs))))
theorem qs_fld {C : Addr} {o value : Expr} {f : Str} {pos pos' : Pos} {to tv : DE} (c : Cls X.K C) (n : NoAttr X.K C f) (ha : QE X o to) (hv : QE X value tv) (hs : swapsWith value (some (.Attribute o f pos')) pos.line X.env = pure false := by rfl) : QS X (.Assign [.Attribute o f pos'] value pos) (dFldS C f to tv) :=
  PS.weak (ps_fld ha hv hs) fun E σ H h => by
    obtain ⟨F, s, G, E', hs, hg, h, k⟩ := h
    refine lE_b hs hg h fun y H1 F1 dy G1 e1 s1 g1 i1 h1 => ?_
    refine lE_b s1 g1 h1 fun x H2 F2 dx2 G2 e2 s2 g2 i2 ⟨p, dx, fs, hx, hp, hl, q⟩ => ?_
    subst hx
    obtain ⟨z, hz, gs, rfl, hf⟩ := g2.get hp
    have e5 := ext_own (z := .ins C dx (putF f y gs)) g2 hp
    exact ⟨p, C, dx, gs, is_ref.mp i2, hz, c, n, by rw [hf.length]; exact hl, k.nx _ _ F2 _ _ ((e1.trans e2).trans e5) (s2.mono e5) (g2.set (o' := .ins C dx (putFD f dy fs)) hp ⟨_, rfl, putFD_rel ((i1.mono e2).mono e5) (hf.mono e5)⟩) q⟩
/-- an instance of the class at C stands there, m no attribute of its own -/
def insAt (G : Gp) (p : Addr) (C : Addr) (m : Str) : Prop := (∃ dx fs, G p = some (.sm (.ins C dx fs)) ∧ fs.lookup m = none) ∨ ∃ L, G p = some (.cmp L) ∧ ∀ ps, L p ps → ∃ dx fs, (p, SO.ins C dx fs) ∈ ps ∧ fs.lookup m = none
theorem insAt_ok {F : Fz} {H : Hp} {G : Gp} (g : Hg F H G) {p C : Addr} {m : Str} (h : insAt G p C m) : ∃ dx gs, H p = some (.ins C dx gs) ∧ gs.lookup m = none := by
  have key : ∀ {dx fs z}, H p = some z → Sm F H (.ins C dx fs) z → fs.lookup m = none → ∃ dx gs, H p = some (.ins C dx gs) ∧ gs.lookup m = none := by
    rintro dx fs z hz ⟨gs, rfl, hf⟩ hl
    have hr := IsP.lookup (f := m) hf
    rw [hl] at hr
    refine ⟨dx, gs, hz, ?_⟩
    cases hv : gs.lookup m with
    | none => rfl
    | some w => rw [hv] at hr; exact hr.elim
  rcases h with ⟨dx, fs, hp, hl⟩ | ⟨L, hp, hL⟩
  · obtain ⟨z, hz, hs⟩ := g.get hp
    exact key hz hs hl
  · obtain ⟨S, ow, hs, f⟩ := g.ex
    obtain ⟨_, ps, l, _, hb⟩ := f p _ hp
    obtain ⟨dx, fs, hm, hl⟩ := hL ps l
    obtain ⟨_, z, hz, hz2⟩ := hs p _ (hb p _ hm).1
    exact key hz hz2 hl
/-- o.m(..) -/
def dMeth (C : Addr) (m : Str) (sp : DSp) (to : DE) (t : DA) : DE := fun s G Q => to s G fun x G1 => ∃ p, x = .ref p ∧ insAt G1 p C m ∧ t s G1 fun ds G2 => sp (x :: ds) G2 Q
theorem lE_meth {C : Addr} {m : Str} {sp : DSp} {E : XK} {to : DE} {t : DA} {ta : TA} (hta : ∀ σ H Q, lA t σ H Q → ta σ H Q) {σ : St} {H : Hp} {Q : VK} (h : lE (dMeth C m sp to t) σ H Q) : tMeth C m (lSp sp) [] E (lE to) ta σ H Q := by
  obtain ⟨F, s, G, Q', hs, hg, h, k⟩ := h
  refine lE_b hs hg h fun v H1 F1 d G1 e1 s1 g1 i1 ⟨p, hx, hp, h1⟩ => ?_
  subst hx
  obtain ⟨dx, gs, h2, h3⟩ := insAt_ok g1 hp
  refine ⟨p, dx, gs, is_ref.mp i1, h2, h3, hta _ _ _ (lA_b s1 g1 h1 fun vs H2 F2 ds G2 e2 s2 g2 i2 q => ?_)⟩
  show lSp sp (v :: (vs ++ [])) H2 Q E
  rw [List.append_nil]
  exact ⟨F2, .ref p :: ds, G2, Q', IsL.cons (i1.mono e2) i2, g2, q, k.step (e1.trans e2)⟩
/-- a method that keeps its promise -/
structure Mt (P : Program) (w : World) (K : PySem.W.Frag) (mg : Str → Option Value) (base : Heap) (C : Addr) (m : Str) (ps : List Str) (k : Nat) (sp : DSp) : Prop where
  ex : ∃ f fd, FnOk P w K mg base CX0 k f fd ps (lSp sp) ∧ Cls K C ∧ Meth K C m f ∧ Binds K fd ps []
theorem qe_meth {C : Addr} {m : Str} {o e : Expr} {es : List Expr} {apos pos : Pos} {k j : Nat} {ps : List Str} {sp : DSp} {to : DE} {t : DA} {pl : Sem Bool} (M : Mt X.prog X.w X.K X.mg X.base C m ps k sp) (hr : Room j X.A) (hj : k ≤ j) (he : QE X o to) (ha : QA X (e :: es) t)
    (hst : starEach (e :: es) X.env = (false, eval e X.env) :: starEach es X.env := by rfl) (hpl : (backTo pos (starEach es X.env)).any (·.1) = false := by rfl)
    (ht : eval (.Call (.Attribute o m apos) (e :: es) [] pos) X.env = (do
      let ov ← eval o X.env
      standAt apos.atName
      let (f, first) ← holding [ov] (getMethod ov m pl)
      callWith pos f first (backTo pos (starEach (e :: es) X.env)) (backToKw pos (keywordEach [] X.env))) := by rfl) : QE X (.Call (.Attribute o m apos) (e :: es) [] pos) (dMeth C m sp to t) := by
  obtain ⟨f, fd, h1, h2, h3, h4⟩ := M.ex
  exact PE.weak (pe_meth he h2 h3 h1 (hr.mono hj) h4 .nil pass0 ha hst hpl ht) fun _ _ _ z => lE_meth (fun _ _ _ z => z) z
theorem qe_meth0 {C : Addr} {m : Str} {o : Expr} {apos pos : Pos} {k j : Nat} {ps : List Str} {sp : DSp} {to : DE} {pl : Sem Bool} (M : Mt X.prog X.w X.K X.mg X.base C m ps k sp) (hr : Room j X.A) (hj : k ≤ j) (he : QE X o to)
    (ht : eval (.Call (.Attribute o m apos) [] [] pos) X.env = (do
      let ov ← eval o X.env
      standAt apos.atName
      let (f, first) ← holding [ov] (getMethod ov m pl)
      callWith pos f first (backTo pos (starEach [] X.env)) (backToKw pos (keywordEach [] X.env))) := by rfl) : QE X (.Call (.Attribute o m apos) [] [] pos) (dMeth C m sp to dNil) := by
  obtain ⟨f, fd, h1, h2, h3, h4⟩ := M.ex
  refine PE.weak (pe_meth0 he h2 h3 h1 (hr.mono hj) h4 .nil pass0 ht) fun _ _ _ z => lE_meth (fun σ H Q z => ?_) z
  obtain ⟨F, s, G, Q', hs, hg, h, k⟩ := z
  exact k [] H F [] G (Ext.refl F H) hg IsL.nil h
/-- C(..) -/
def dMake (C : Addr) (sp : DSp) (t : DA) : DE := fun s G Q => t s G fun ds G1 => ∀ x dx, G1 x = none → sp (.ref x :: ds) (ud G1 x (.sm (.ins C dx []))) fun v G2 => v = .non ∧ Q (.ref x) G2
structure Mkr (P : Program) (w : World) (K : PySem.W.Frag) (mg : Str → Option Value) (base : Heap) (x : Str) (C : Addr) (ps : List Str) (k : Nat) (sp : DSp) : Prop where
  ex : ∃ f fd, FnOk P w K mg base CX0 k f fd ps (lSp sp) ∧ Mk K C f ∧ mg x = some (.ref C) ∧ Binds K fd ps []
theorem qe_make {x : Str} {C : Addr} {p pos : Pos} {e : Expr} {es : List Expr} {k j : Nat} {ps : List Str} {sp : DSp} {t : DA} (M : Mkr X.prog X.w X.K X.mg X.base x C ps k sp) (hr : Room j X.A) (hj : k + 1 ≤ j) (hg : Gl X x) (ha : QA X (e :: es) t)
    (hdb : (x == ("__debug__" : Str)) = false := by decide) (he : starEach (e :: es) X.env = (false, eval e X.env) :: starEach es X.env := by rfl) (hpl : (backTo pos (starEach es X.env)).any (·.1) = false := by rfl) : QE X (.Call (.Name x p) (e :: es) [] pos) (dMake C sp t) := by
  obtain ⟨f, fd, h1, h2, h3, h4⟩ := M.ex
  refine PE.weak (pe_make h2 h1 (hr.mono hj) hg h3 h4 .nil pass0 ha hdb he hpl) fun σ H Q z => ?_
  obtain ⟨F, s, G, Q', hs, hg, h, k⟩ := z
  refine lA_b hs hg h fun vs H1 F1 ds G1 e1 s1 g1 i1 q => ?_
  intro x dx hx hdx hne
  have ex1 : Ext F1 H1 F1 (upd H1 dx (.own x)) := ext_new g1.fok hdx
  have g2 : Hg F1 (upd H1 dx (.own x)) G1 := g1.newT hdx
  have hx2 : upd H1 dx (.own x) x = none := by rw [upd_ne (Ne.symm hne)]; exact hx
  have ex2 : Ext F1 (upd H1 dx (.own x)) F1 (upd (upd H1 dx (.own x)) x (.ins C dx [])) := ext_new g2.fok hx2
  have g3 := g2.new (o := .ins C dx []) (z := .ins C dx []) hx2 ⟨[], rfl, .nil⟩
  show lSp sp (.ref x :: (vs ++ [])) _ _ _
  rw [List.append_nil]
  refine ⟨F1, .ref x :: ds, _, _, IsL.cons (is_ref.mpr rfl) (i1.mono (ex1.trans ex2)), g3, q x dx (g1.fresh hx), fun v H' F' d G' e g i ⟨hv, q2⟩ => ?_⟩
  subst hv
  exact ⟨is_non.mp i, k _ H' F' _ G' (((e1.trans ex1).trans ex2).trans e) g (is_ref.mpr rfl) q2⟩
/-! ### a dict is locked while an expression walks it -/
def dLockK (t : DE) : DE := fun s G Q => ∃ p kvs, G p = some (.sm (.dK kvs)) ∧ ∀ z, t s (ud G p (.sm (.lkK z kvs))) fun v G' => G' p = some (.sm (.lkK z kvs)) ∧ Q v (ud G' p (.sm (.dK kvs)))
theorem qe_lockK {e : Expr} {t : DE} (h : QE X e t) : QE X e (dLockK t) := PE.weak (pe_lock h) fun σ H Q z => by
  obtain ⟨F, s, G, Q', hs, hg, ⟨p, kvs, hp, h⟩, k⟩ := z
  obtain ⟨z, hz, vs, rfl, hl⟩ := hg.get hp
  refine ⟨p, .dK vs, hz, trivial, fun od => ?_⟩
  have e5 := ext_own (z := .frz od (.dK vs)) hg hp
  have g5 := hg.set (o' := .lkK (.frz od (.dK vs)) kvs) (z := .frz od (.dK vs)) hp ⟨rfl, od, vs, rfl, hl.mono e5⟩
  refine lE_b (hs.mono e5) g5 (h _) fun v H1 F1 d G1 e1 s1 g1 i1 ⟨hq, q⟩ => ?_
  obtain ⟨z2, hz2, rfl, o2, vs2, h3, h4⟩ := g1.get hq
  refine ⟨hz2, ?_⟩
  have h5 : vs = vs2 := by
    have := HO.frz.inj h3
    exact HO.dK.inj this.2
  subst h5
  have e6 := ext_own (z := .dK vs) g1 hq
  exact k _ _ F1 _ _ ((e5.trans e1).trans e6) (g1.set (o' := .dK kvs) hq ⟨_, rfl, h4.mono e6⟩) (i1.mono e6) q
/-- the keys, walked -/
theorem walk_K {F1 : Fz} {H1 : Hp} {p : Addr} {od : Obj} {vs : List (Key × V)} {kvs : List (Key × D)} {z : HO} (hz : z = .frz od (.dK vs)) (hl : IsP F1 H1 kvs vs) : WalkD (Itk p od vs) kvs.length (fun i d => ∃ k v, kvs[i]? = some (k, v) ∧ ((∃ n, k = .inl n ∧ d = .int n) ∨ ∃ x, k = .inr x ∧ d = .str x)) (fun G => G p = some (.sm (.lkK z kvs))) F1 H1 := by
  have key : ∀ F H G, Hg F H G → G p = some (.sm (.lkK z kvs)) → H p = some (.frz od (.dK vs)) := fun F H G hg hok => by
    obtain ⟨y, hy, h0, _⟩ := hg.get hok
    rw [hy, h0, hz]
  have hlen := hl.length
  refine ⟨fun i F H G hi ex hg hok => ⟨key F H G hg hok, by omega⟩, fun F H G ex hg hok => ⟨key F H G hg hok, by omega⟩, fun i F H G v H' hi ex hg hok y => ?_⟩
  obtain ⟨e, k, w, hk, rfl⟩ := y
  refine ⟨e, ?_⟩
  have hkeys := hl.keys
  have h2 : (kvs.map (·.1))[i]? = some k := by rw [← hkeys, List.getElem?_map, hk]; rfl
  rw [List.getElem?_map, List.getElem?_eq_getElem hi] at h2
  have h2 : kvs[i].1 = k := Option.some.inj h2
  cases k with
  | inl n => exact ⟨.int n, ⟨.inl n, kvs[i].2, by rw [List.getElem?_eq_getElem hi, ← h2], .inl ⟨n, rfl, rfl⟩⟩, is_int.mpr rfl⟩
  | inr x => exact ⟨.str x, ⟨.inr x, kvs[i].2, by rw [List.getElem?_eq_getElem hi, ← h2], .inr ⟨x, rfl, rfl⟩⟩, is_str.mpr rfl⟩
/-- [.. for k in d], d locked, int keys -/
def dLcK (tl : DE) (c : CT) (tt : DT) (te : DE) (vs : List Nat) : DE := fun s G Q => tl s G fun x G1 => ∃ p z ks us, x = .ref p ∧ G1 p = some (.sm (.lkK z (ks.zip us))) ∧ ks.length = us.length ∧ ∃ ns : List Int, ks = ns.map Sum.inl ∧ dLcC ns.length (fun i d => (ns.map D.int)[i]? = some d) (fun G => G p = some (.sm (.lkK z (ks.zip us)))) c tt te vs s G1 Q
theorem lE_lcK {tl : DE} {c : CT} {tt : DT} {tt' : TT} (htt : ∀ σ H Q, lT tt σ H Q → tt' σ H Q) {te : DE} {vs : List Nat} (hcv : ∀ i ∈ c.sl, i ∈ vs) {σ : St} {H : Hp} {Q : VK} (h : lE (dLcK tl c tt te vs) σ H Q) : tLc (iKeys (lE tl)) (c.g K) tt' (lE te) vs σ H Q := by
  obtain ⟨F, s, G, Q', hs, hg, h, k⟩ := h
  refine lE_b hs hg h fun v H1 F1 d G1 e1 s1 g1 i1 ⟨p, z, ks, us, hx, hp, hlen, ns, hns, h1⟩ => ?_
  subst hx
  obtain ⟨y, hy, h0, od, vv, h3, h4⟩ := g1.get hp
  subst h0
  subst h3
  refine ⟨p, od, is_ref.mp i1, .inl ⟨vv, hy, ?_⟩⟩
  have w := walk_K (p := p) (z := .frz od (.dK vv)) rfl h4
  have hzl : (ks.zip us).length = ns.length := by
    rw [List.length_zip, ← hlen, Nat.min_self, hns, List.length_map]
  have w2 : WalkD (Itk p od vv) ns.length (fun i d => (ns.map D.int)[i]? = some d) (fun G => G p = some (.sm (.lkK (.frz od (.dK vv)) (ks.zip us)))) F1 H1 := by
    rw [hzl] at w
    refine ⟨w.go, w.stop, fun i F H G x H' hi ex hg hok y => ?_⟩
    obtain ⟨e, d, ⟨k, u, hk, hd⟩, hix⟩ := w.yld i F H G x H' hi ex hg hok y
    refine ⟨e, d, ?_, hix⟩
    have hk2 : ks[i]? = some k := by
      rw [List.getElem?_zip_eq_some] at hk
      exact hk.1
    rw [hns, List.getElem?_map, List.getElem?_eq_getElem hi] at hk2
    have hk2 : Sum.inl ns[i] = k := Option.some.inj hk2
    rw [List.getElem?_map, List.getElem?_eq_getElem hi]
    rcases hd with ⟨n, h5, rfl⟩ | ⟨n, h5, rfl⟩
    · rw [← hk2] at h5
      cases h5
      rfl
    · rw [← hk2] at h5
      cases h5
  exact lcC_ok w2 htt hcv s1 g1 h1 (k.step e1)
theorem qe_lcK {elt tg l : Expr} {ifs : List Expr} {scope : Scope} {own : List (Str × Nat)} {pos : Pos} {tl : DE} {c : CT} {tt : DT} {tt' : TT} {te : DE} (hc : X.calm = true) (hN : X.N.Nodup) (hl : QE X l tl) (ok : BlkOk X.N X.env.scope scope own)
    (hg : ∀ (s : Shared) (H : Hp) (C : Addr) (cl : List (Str × Addr)) (fp : List Addr), PG (X.blk s H scope (compEnvC scope cl C X.env) fp) tg (c.g X.K)) (ht : ∀ (s : Shared) (H : Hp) (C : Addr) (cl : List (Str × Addr)) (fp : List Addr), PTs (X.blk s H scope (compEnvC scope cl C X.env) fp) ifs tt')
    (htt : ∀ σ H Q, lT tt σ H Q → tt' σ H Q) (he : ∀ (s : Shared) (H : Hp) (C : Addr) (cl : List (Str × Addr)) (fp : List Addr), QE (X.blk s H scope (compEnvC scope cl C X.env) fp) elt te) (hcv : ∀ i ∈ c.sl, i ∈ own.map (·.2)) (hs : ∀ x, foldedSetIterable l X.env x = pure x := by intro _; rfl) :
    QE X (.ListComp elt [⟨tg, l, ifs, 0⟩] scope pos) (dLcK tl c tt te (own.map (·.2))) := PE.weak (pe_lc hc hN (pi_keys hl) ok hg ht he hs) fun _ _ _ z => lE_lcK htt hcv z
/-! ### min, max, sorted -/
def cMaxL : List D → Gp → DK → Prop := fun xs G Q => ∃ x ns, xs = [x] ∧ lstOf G x = some (ns.map D.int) ∧ ns ≠ [] ∧ ∀ m, m ∈ ns → (∀ y ∈ ns, y ≤ m) → Q (.int m) G
theorem sc_maxL : SC (rMax K) cMaxL := by
  rintro F H G xs ds Q Q' hG il ⟨x, ns, rfl, hx, hne, q⟩ k
  obtain ⟨v, rfl, iv⟩ := isL_one il
  obtain ⟨a, vs, rfl, h1, h2⟩ := lstOf_ok hG iv hx
  rw [h2.ints] at h1
  exact ⟨a, ns, rfl, .inl (.inl h1), List.length_pos_iff.mpr hne, fun m hm hy => k.fin hG (is_int.mpr rfl) (q m hm hy)⟩
/-- sorted(d), int keys -/
def cSortK : List D → Gp → DK → Prop := fun xs G Q => ∃ p kvs ks, xs = [.ref p] ∧ dKG (G p) = some kvs ∧ kvs.map (·.1) = ks.map Sum.inl ∧ ks.length < 64 ∧ ∀ ys : List Int, ys.Perm ks → ys.Pairwise (· ≤ ·) → ∀ q, G q = none → Q (.ref q) (ud G q (.sm (.lst (ys.map D.int))))
theorem sc_sortK : SC (fun xs H Q => ∃ (a : Addr) (kvs : List (Key × V)) (ks : List Int), xs = [.ref a] ∧ L2.Rd H a (.dK kvs) ∧ kvs.map (·.1) = ks.map Sum.inl ∧ ks.length < 64 ∧ ∀ (ys : List Int) (p : Addr), ys.Perm ks → ys.Pairwise (· ≤ ·) → H p = none → Q (.ref p) (upd H p (.lst (ys.map V.int)))) cSortK := by
  rintro F H G xs ds Q Q' hG il ⟨p, kds, ks, rfl, hp, hk, h64, q⟩ k
  obtain ⟨v, rfl, iv⟩ := isL_one il
  obtain ⟨kvs, h1, h2⟩ := dKG_ok hG hp
  exact ⟨p, kvs, ks, by rw [is_ref.mp iv], h1, by rw [h2.keys]; exact hk, h64, fun ys z hp1 hp2 hz => k.newL hG IsL.of_ints (q ys hp1 hp2) z hz⟩
theorem IsL.perm {F : Fz} {H : Hp} {vs ys : List V} (hp : ys.Perm vs) : ∀ {ds : List D}, IsL F H ds vs → ∃ es, es.Perm ds ∧ IsL F H es ys := by
  induction hp with
  | nil => exact fun {ds} h => ⟨ds, .refl _, h⟩
  | cons x _ ih =>
    intro ds h
    cases ds with
    | nil => cases isL_nil.mp h
    | cons d ds =>
      obtain ⟨v, r, e, h1, h2⟩ := isL_cons.mp h
      cases e
      obtain ⟨es, p, i⟩ := ih h2
      exact ⟨d :: es, p.cons d, IsL.cons h1 i⟩
  | swap x y l =>
    intro ds h
    cases ds with
    | nil => cases isL_nil.mp h
    | cons d ds =>
      obtain ⟨v, r, e, h1, h2⟩ := isL_cons.mp h
      cases e
      cases ds with
      | nil => cases isL_nil.mp h2
      | cons c ds =>
        obtain ⟨v2, r2, e2, h3, h4⟩ := isL_cons.mp h2
        cases e2
        exact ⟨c :: d :: ds, List.Perm.swap .., IsL.cons h3 (IsL.cons h1 h4)⟩
  | trans _ _ ih1 ih2 =>
    intro ds h
    obtain ⟨es, p, i⟩ := ih2 h
    obtain ⟨fs, p2, i2⟩ := ih1 i
    exact ⟨fs, p2.trans p, i2⟩
/-- a tuple of ints -/
def TN (ns : List Int) : D := .tup (ns.map D.int)
theorem ti_of {F : Fz} {H : Hp} {ns : List Int} {v : V} (i : Is F H (TN ns) v) : TupI K H v ns := by
  obtain ⟨a, vs, rfl, h1, h2⟩ := is_tup.mp i
  rw [h2.ints] at h1
  exact ⟨a, rfl, .inl (.inl h1)⟩
/-- sorted(xs), tuples of d ints below B -/
def cSortU (d : Nat) (B : Int) : List D → Gp → DK → Prop := fun xs G Q => ∃ (x : D) (ts : List (List Int)), xs = [x] ∧ lstOf G x = some (ts.map TN) ∧ ts.length < 64 ∧ (∀ t ∈ ts, t.length = d ∧ TS.Bd B t) ∧
  ∀ us : List (List Int), us.Perm ts → us.Pairwise (fun a b => TS.code B a ≤ TS.code B b) → ∀ p, G p = none → Q (.ref p) (ud G p (.sm (.lst (us.map TN))))
theorem ints_inj : ∀ {a b : List Int}, a.map D.int = b.map D.int → a = b
  | [], [], _ => rfl
  | [], _ :: _, h => by cases h
  | _ :: _, [], h => by cases h
  | x :: a, y :: b, h => by
    rw [List.map_cons, List.map_cons, List.cons.injEq, D.int.injEq] at h
    rw [h.1, ints_inj h.2]
theorem TN_inj {a b : List Int} (h : TN a = TN b) : a = b := ints_inj (D.tup.inj h)
theorem perm_TN {es : List D} {ts : List (List Int)} (h : es.Perm (ts.map TN)) : ∃ us : List (List Int), us.Perm ts ∧ es = us.map TN := by
  have hm : ∀ e ∈ es, ∃ t, e = TN t := fun e he => by
    obtain ⟨t, _, rfl⟩ := List.mem_map.mp (h.subset he)
    exact ⟨t, rfl⟩
  have : ∃ us : List (List Int), es = us.map TN := by
    clear h
    induction es with
    | nil => exact ⟨[], rfl⟩
    | cons e es ih =>
      obtain ⟨t, rfl⟩ := hm e (List.mem_cons_self ..)
      obtain ⟨us, rfl⟩ := ih fun x hx => hm x (List.mem_cons_of_mem _ hx)
      exact ⟨t :: us, rfl⟩
  obtain ⟨us, rfl⟩ := this
  refine ⟨us, ?_, rfl⟩
  have key : ∀ (us ts : List (List Int)), (us.map TN).Perm (ts.map TN) → us.Perm ts := fun us => by
    induction us with
    | nil =>
      intro ts h
      have := h.length_eq
      cases ts with
      | nil => exact .refl _
      | cons t ts => simp at this
    | cons u us ih =>
      intro ts h
      have hu : TN u ∈ ts.map TN := h.subset (List.mem_cons_self ..)
      obtain ⟨t, ht, e⟩ := List.mem_map.mp hu
      have e := TN_inj e
      subst e
      obtain ⟨l1, l2, rfl⟩ := List.append_of_mem ht
      have h2 : (us.map TN).Perm ((l1 ++ l2).map TN) := by
        refine List.Perm.cons_inv (a := TN t) (h.trans ?_)
        rw [List.map_append, List.map_cons, List.map_append]
        exact List.perm_middle
      exact ((ih _ h2).cons t).trans List.perm_middle.symm
  exact key us ts h
theorem sc_sortU {d : Nat} {B : Int} : SC (rSortU K d B) (cSortU d B) := by
  rintro F H G xs ds Q Q' hG il ⟨x, ts, rfl, hx, h64, hB, q⟩ k
  obtain ⟨v, rfl, iv⟩ := isL_one il
  obtain ⟨a, vs, rfl, h1, h2⟩ := lstOf_ok hG iv hx
  refine ⟨a, vs, rfl, .inl (.inl h1), by rw [h2.length, List.length_map]; exact h64, fun w hw => ?_, fun ys p hp hs hz => ?_⟩
  · obtain ⟨i, hi⟩ := List.mem_iff_getElem?.mp hw
    obtain ⟨e, h3, h4⟩ := h2.getV hi
    obtain ⟨t, ht, rfl⟩ := List.mem_map.mp (List.mem_of_getElem? h3)
    exact ⟨t, ti_of h4, hB t ht⟩
  · obtain ⟨es, p2, i2⟩ := IsL.perm hp h2
    obtain ⟨us, p3, rfl⟩ := perm_TN p2
    refine k.newL hG i2 (q us p3 ?_) p hz
    rw [List.pairwise_iff_getElem] at hs ⊢
    intro i j hi hj hij
    have hl := i2.length
    rw [List.length_map] at hl
    obtain ⟨v1, e1, t1⟩ := i2.get (i := i) (d := TN us[i]) (by rw [List.getElem?_map, List.getElem?_eq_getElem hi]; rfl)
    obtain ⟨v2, e2, t2⟩ := i2.get (i := j) (d := TN us[j]) (by rw [List.getElem?_map, List.getElem?_eq_getElem hj]; rfl)
    rw [List.getElem?_eq_getElem (by omega)] at e1 e2
    cases e1
    cases e2
    exact hs i j (by omega) (by omega) hij _ _ (ti_of t1) (ti_of t2)
end
end Dg

namespace Dg
open PySem PySem.Spec L2
open PyProof.Rows
/-! ### min of pairs -/
def ltP (a b : Int × Int) : Prop := a.1 < b.1 ∨ (a.1 = b.1 ∧ a.2 < b.2)
instance (a b : Int × Int) : Decidable (ltP a b) := inferInstanceAs (Decidable (_ ∨ _))
def prD (p : Int × Int) : PyData := .tuple [.int p.1, .int p.2]
theorem minP_fold : ∀ (rest : List (Int × Int)) (p : Int × Int), ∃ m, m ∈ p :: rest ∧ (∀ q ∈ p :: rest, ¬ ltP q m) ∧ PySem.W.minD (prD p) (rest.map prD) = prD m
  | [], p => ⟨p, List.mem_cons_self .., by unfold ltP; simp only [List.mem_singleton]; rintro q rfl; omega, rfl⟩
  | r :: rest, p => by
    have e : PySem.W.minD (prD p) ((r :: rest).map prD) = PySem.W.minD (prD (if ltP r p then r else p)) (rest.map prD) := by
      unfold PySem.W.minD
      rw [List.map_cons, List.foldl_cons]
      congr 1
      have h : PySem.W.dataLt (prD r) (prD p) = decide (ltP r p) := PySem.W.dataLt_ii ..
      rw [h]
      by_cases c : ltP r p
      · rw [decide_eq_true c, if_pos rfl, if_pos c]
      · rw [decide_eq_false c, if_neg Bool.false_ne_true, if_neg c]
    obtain ⟨m, h1, h2, h3⟩ := minP_fold rest (if ltP r p then r else p)
    refine ⟨m, ?_, ?_, e.trans h3⟩
    · by_cases c : ltP r p
      · rw [if_pos c] at h1
        rcases List.mem_cons.mp h1 with z | z <;> simp [z]
      · rw [if_neg c] at h1
        rcases List.mem_cons.mp h1 with z | z <;> simp [z]
    · intro q hq
      have h2' := h2 (if ltP r p then r else p) (List.mem_cons_self ..)
      rcases List.mem_cons.mp hq with z | hq
      · subst z
        by_cases c : ltP r q
        · rw [if_pos c] at h2'
          unfold ltP at *
          omega
        · rw [if_neg c] at h2'
          exact h2'
      · rcases List.mem_cons.mp hq with z | hq
        · subst z
          by_cases c : ltP q p
          · rw [if_pos c] at h2'
            exact h2'
          · rw [if_neg c] at h2'
            unfold ltP at *
            omega
        · exact h2 q (List.mem_cons_of_mem _ hq)
/-- min(xs): which one it is -/
theorem min_at {prog : Program} {w : World} {A : Around} {E : Value → Shared → Prop} {s : Shared} {l : Addr} {vs : Array Value} {x : PyData} {xs : List PyData} {as : List Addr} {Q : Value → Shared → Prop} (hh : A.handled = none) (hl : s.heap.IsList l vs) (hr : ReadsAll s.heap vs.toList (x :: xs) as)
    (ha : PySem.W.AlikeAll (x :: xs)) (hu : A.units + 1 + PyData.depthAll (x :: xs) < cLine) (h : ∀ (i : Nat) v h' tk, vs[i]? = some v → (x :: xs).getD i .none = PySem.W.minD x xs → (∀ b o, s.heap.get? b = some o → h'.get? b = some o) → Q v { s with heap := h', toks := tk }) :
    wpAny (model prog w) A (call (.builtin "min") [.ref l]) Q E s := by
  have hn : xs.length = vs.size - 1 ∧ 0 < vs.size := by
    have := PySem.W.readsAll_len hr
    simp only [List.length_cons] at this
    omega
  have fold := (PySem.W.argBest_fold PySem.W.dataLt .none x xs xs.length (Nat.le_refl _)).2
  rw [List.take_length, hn.1] at fold
  refine PySem.call_min_walkH (PySem.W.iter_listW (A := A.in1) hh hl fun s2 e W st hfp hw hk => ⟨_, _, _, _, _, _, _, s.heap, _, rfl, W, st, hfp, hn.2, hw, hk, PySem.W.cmpIn_lt (A := A.in1) hr ha hu, fun v s3 hP mv => ?_⟩)
  obtain ⟨h2, tk, rfl, keep⟩ := PySem.W.moved_old e rfl mv
  exact h _ v h2 tk hP fold keep
section
variable {X : Cx} {K : PySem.W.Frag}
def rMinP (K : PySem.W.Frag) : List V → Hp → VK → Prop := fun vs H Q => ∃ (a : Addr) (xs : List V) (ps : List (Int × Int)), vs = [V.ref a] ∧ SqL K H a xs ∧ DpAll K H xs (ps.map prD) ∧ ps ≠ [] ∧ ∀ (i : Nat) v m, xs[i]? = some v → ps[i]? = some m → (∀ q ∈ ps, ¬ ltP q m) → Q v H
theorem vals_at : ∀ {xs : List V} {us : List Value} {i : Nat} {u : Value}, Vals xs us → us[i]? = some u → ∃ v, xs[i]? = some v ∧ RelV v u
  | _, _, i, u, .nil, h => by cases i <;> cases h
  | v :: _, u' :: _, 0, u, .cons r _, h => by cases h; exact ⟨v, rfl, r⟩
  | _ :: _, _ :: _, i + 1, u, .cons _ t, h => by
    obtain ⟨w, h1, h2⟩ := vals_at (i := i) t (by simpa using h)
    exact ⟨w, by simpa using h1, h2⟩
theorem depth_pr : ∀ ps : List (Int × Int), PyData.depthAll (ps.map prD) ≤ 1
  | [] => Nat.zero_le _
  | p :: ps => by
    rw [List.map_cons, PyData.depthAll]
    exact Nat.max_le.mpr ⟨by simp [prD, PyData.depth, PyData.depthAll], depth_pr ps⟩
theorem cr_minP (hc : X.calm = true) (hu : X.A.units + 65 < cLine) : CallR X (.builtin "min") (rMinP X.K) := by
  intro pins s σ H vs us Q I r h
  obtain ⟨a, xs, ps, rfl, hs, hd, hne, q⟩ := h
  obtain ⟨its, rv, hl, _⟩ := I.list hs
  rw [Vals.ref1 r]
  obtain ⟨as, hr⟩ := Dp.readsAll I _ xs its hd rv
  cases ps with
  | nil => exact absurd rfl hne
  | cons p rest =>
    obtain ⟨m, m1, m2, m3⟩ := minP_fold rest p
    have hdep := depth_pr (p :: rest)
    rw [List.map_cons] at hr hdep
    refine min_at (x := prD p) (xs := rest.map prD) (I.ok.hd hc) hl.isList (by simpa using hr) ⟨fun y hy z hz => ?_, fun y hy e => ?_⟩ (by omega) fun i v h' tk hv he hk => ?_
    · rw [← List.map_cons] at hy hz
      obtain ⟨y', _, rfl⟩ := List.mem_map.mp hy
      obtain ⟨z', _, rfl⟩ := List.mem_map.mp hz
      rfl
    · rw [← List.map_cons] at hy
      obtain ⟨y', _, rfl⟩ := List.mem_map.mp hy
      cases e
    · have hv : its[i]? = some v := by simpa using hv
      obtain ⟨w, h1, h2⟩ := vals_at rv hv
      refine ⟨w, H, I.kept hk, h2, q i w m h1 ?_ m2⟩
      rw [m3, ← List.map_cons, List.getD_eq_getElem?_getD, List.getElem?_map] at he
      cases e3 : (p :: rest)[i]? with
      | none => rw [e3] at he; cases he
      | some m' =>
        rw [e3] at he
        have he : prD m' = prD m := he
        unfold prD at he
        simp only [PyData.tuple.injEq, List.cons.injEq, PyData.int.injEq, and_true] at he
        rw [show m' = m from Prod.ext he.1 he.2]
/-- min(xs) of pairs -/
def cMinP : List D → Gp → DK → Prop := fun xs G Q => ∃ (x : D) (ps : List (Int × Int)), xs = [x] ∧ lstOf G x = some (ps.map fun p => D.tup [.int p.1, .int p.2]) ∧ ps ≠ [] ∧ ∀ m, m ∈ ps → (∀ q ∈ ps, ¬ ltP q m) → Q (.tup [.int m.1, .int m.2]) G
theorem dp_pairs {F : Fz} {H : Hp} : ∀ {ps : List (Int × Int)} {vs : List V}, IsL F H (ps.map fun p => D.tup [.int p.1, .int p.2]) vs → DpAll K H vs (ps.map prD)
  | [], vs, h => by rw [isL_nil.mp h]; exact .nil
  | p :: ps, vs, h => by
    obtain ⟨v, r, rfl, h1, h2⟩ := isL_cons.mp (show IsL F H (D.tup [.int p.1, .int p.2] :: ps.map fun p => D.tup [.int p.1, .int p.2]) vs from h)
    have hp : pl 2 (D.tup [.int p.1, .int p.2]) = true := rfl
    have := dp_of (K := K) hp h1
    rw [toP, toPs, toPs, toPs, toP, toP] at this
    exact .cons this (dp_pairs h2)
theorem sc_minP : SC (rMinP K) cMinP := by
  rintro F H G xs ds Q Q' hG il ⟨x, ps, rfl, hx, hne, q⟩ k
  obtain ⟨v, rfl, iv⟩ := isL_one il
  obtain ⟨a, vs, rfl, h1, h2⟩ := lstOf_ok hG iv hx
  refine ⟨a, vs, ps, rfl, .inl (.inl h1), dp_pairs h2, hne, fun i w m hw hm hq => ?_⟩
  obtain ⟨w2, h3, h4⟩ := h2.get (i := i) (d := D.tup [.int m.1, .int m.2]) (by rw [List.getElem?_map, hm]; rfl)
  rw [hw] at h3
  cases h3
  exact k.fin hG h4 (q m (List.mem_of_getElem? hm) hq)
end
end Dg
namespace Dg
open PySem PySem.Spec L2
/-- len(d) -/
def cLenD : List D → Gp → DK → Prop := fun xs G Q => ∃ p kvs, xs = [.ref p] ∧ G p = some (.sm (.dK kvs)) ∧ Q (.int (kvs.length : Int)) G
theorem sc_lenD : SC (fun xs H Q => ∃ a kvs, xs = [V.ref a] ∧ H a = some (.dK kvs) ∧ Q (.int kvs.length) H) cLenD := by
  rintro F H G xs ds Q Q' hG il ⟨p, kds, rfl, hp, q⟩ k
  obtain ⟨v, rfl, iv⟩ := isL_one il
  obtain ⟨z, hz, vs, rfl, hl⟩ := hG.get hp
  exact ⟨p, vs, by rw [is_ref.mp iv], hz, by rw [hl.length]; exact k.fin hG (is_int.mpr rfl) q⟩
section
variable {K : PySem.W.Frag} {s : DSt} {G : Gp} {Q : DK} {E : DEnds} {ta tb tv : DE} {tr : DA} {C : Addr} {f m : Str} {x d : D} {p : Addr} {dx : Addr} {fs : List (Str × D)} {ds : List D} {sp : DSp}
theorem w_fld (h : ta s G fun x G1 => ∃ p dx fs d, x = .ref p ∧ G1 p = some (.sm (.ins C dx fs)) ∧ fs.lookup f = some d ∧ Q d G1) : dFld C f ta s G Q := h
theorem w_fldE {P : D → Prop} (h1 : G p = some (.sm (.ins C dx fs))) (h2 : fs.lookup f = some d) (q : P d) : ∃ p' dx fs d', D.ref p = .ref p' ∧ G p' = some (.sm (.ins C dx fs)) ∧ fs.lookup f = some d' ∧ P d' := ⟨p, dx, fs, d, rfl, h1, h2, q⟩
theorem w_fldS (h : tv s G fun y G1 => ta s G1 fun x G2 => ∃ p dx fs, x = .ref p ∧ G2 p = some (.sm (.ins C dx fs)) ∧ fs.length < 1000 ∧ E.nx s (ud G2 p (.sm (.ins C dx (putFD f y fs))))) : dFldS C f ta tv E s G := h
theorem w_fldSE {P : Addr → Addr → List (Str × D) → Prop} (h1 : G p = some (.sm (.ins C dx fs))) (h2 : fs.length < 1000) (q : P p dx fs) : ∃ p' dx fs, D.ref p = .ref p' ∧ G p' = some (.sm (.ins C dx fs)) ∧ fs.length < 1000 ∧ P p' dx fs := ⟨p, dx, fs, rfl, h1, h2, q⟩
theorem w_meth (h : ta s G fun x G1 => ∃ p, x = .ref p ∧ insAt G1 p C m ∧ tr s G1 fun ds G2 => sp (x :: ds) G2 Q) : dMeth C m sp ta tr s G Q := h
theorem w_methE {A : Prop} (h1 : insAt G p C m) (q : A) : ∃ p', D.ref p = .ref p' ∧ insAt G p' C m ∧ A := ⟨p, rfl, h1, q⟩
theorem w_make (h : tr s G fun ds G1 => ∀ x dx, G1 x = none → sp (.ref x :: ds) (ud G1 x (.sm (.ins C dx []))) fun v G2 => v = .non ∧ Q (.ref x) G2) : dMake C sp tr s G Q := h
theorem w_maxL {ns : List Int} (h : lstOf G x = some (ns.map D.int)) (h2 : ns ≠ []) (q : ∀ m, m ∈ ns → (∀ y ∈ ns, y ≤ m) → Q (.int m) G) : cMaxL [x] G Q := ⟨x, ns, rfl, h, h2, q⟩
theorem w_lenD {kvs : List (Key × D)} (h : G p = some (.sm (.dK kvs))) (q : Q (.int (kvs.length : Int)) G) : cLenD [.ref p] G Q := ⟨p, kvs, rfl, h, q⟩
end
end Dg
namespace Dg
open PySem PySem.Spec L2
theorem w_lcK {s : DSt} {G : Gp} {Q : DK} {ta te : DE} {c : CT} {tt : DT} {vs : List Nat} (h : ta s G fun x G1 => ∃ p z ks us, x = .ref p ∧ G1 p = some (.sm (.lkK z (ks.zip us))) ∧ ks.length = us.length ∧ ∃ ns : List Int, ks = ns.map Sum.inl ∧ dLcC ns.length (fun i d => (ns.map D.int)[i]? = some d) (fun G => G p = some (.sm (.lkK z (ks.zip us)))) c tt te vs s G1 Q) : dLcK ta c tt te vs s G Q := h
end Dg

/-! What is raised: promises with a second end, defs that raise, calls of them. -/
namespace Dg
open PySem PySem.Spec L2
open PyProof.Rows (envOfC)
abbrev DXK := Addr → Option Addr → Gp → Prop
abbrev DSpX := List D → Gp → DK → DXK → Prop
/-- what is wanted of an exception, over data: its class, its own dict -/
def KE (E : XK) (E' : DXK) : Prop := ∀ F H G C d, Hg F H G → E' C d G → E (.ref C) d H
def lSpX (sp : DSpX) : Sp := fun vs H Q E => ∃ F ds G Q' E', IsL F H ds vs ∧ Hg F H G ∧ sp ds G Q' E' ∧ Kc F H Q Q' ∧ KE E E'
def noX : DXK := fun _ _ _ => False
/-- seen otherwise -/
def vX (E' : DXK) : DXK := fun C d G => ∀ F H, Hg F H G → ∃ F' G', Hg F' H G' ∧ E' C d G'
theorem KE.vX {E : XK} {E' : DXK} (k : KE E E') : KE E (vX E') := fun F H G C d g q => by
  obtain ⟨F', G', g', q'⟩ := q F H g
  exact k F' H G' C d g' q'
theorem vX0 {E' : DXK} {C : Addr} {d : Option Addr} {G : Gp} (h : E' C d G) : vX E' C d G := fun F H g => ⟨F, G, g, h⟩
theorem vX_sub {E' : DXK} {C : Addr} {d : Option Addr} {G G' : Gp} (k : ∀ a x, G' a = some x → G a = some x) (h : E' C d G') : vX E' C d G := fun F H g => ⟨F, G', g.mono k, h⟩
theorem vX_to {E' : DXK} {C : Addr} {d : Option Addr} {G G' : Gp} (k : ∀ F H, Hg F H G → Hg F H G') (h : E' C d G') : vX E' C d G := fun F H g => ⟨F, G', k F H g, h⟩
/-- such exceptions may leave -/
structure TK (X : Cx) (E' : DXK) : Prop where
  ex : ∃ E : XK, Takes X (fun cls d _ H => E cls d H) ∧ KE E E'
theorem TK.vX {X : Cx} {E' : DXK} (t : TK X E') : TK X (Dg.vX E') := by
  obtain ⟨E, h1, h2⟩ := t.ex
  exact ⟨E, h1, h2.vX⟩
/-- a def that may raise -/
structure FnX (P : Program) (w : World) (K : PySem.W.Frag) (mg : Str → Option Value) (base : Heap) (x : Str) (ps : List Str) (k : Nat) (sp : DSpX) : Prop where
  ex : ∃ f fd, FnOk P w K mg base (L2.CX P w) k f fd ps (lSpX sp) ∧ mg x = some (.ref f) ∧ PySem.W.keepIn K (.ref f) = true ∧ Binds K fd ps []
def dCallX (sp : DSpX) (E' : DXK) (t : DA) : DE := fun s G Q => t s G fun ds G1 => sp ds G1 Q E'
section
variable {X : Cx}
theorem lE_callX {sp : DSpX} {E' : DXK} {t : DA} {E : XK} (ke : KE E E') {σ : St} {H : Hp} {Q : VK} (h : lE (dCallX sp E' t) σ H Q) : tCall (lSpX sp) [] E (lA t) σ H Q := by
  obtain ⟨F, s, G, Q', hs, hg, h, k⟩ := h
  refine lA_b hs hg h fun vs H1 F1 ds G1 e1 s1 g1 i1 q => ?_
  show lSpX sp (vs ++ []) H1 Q E
  rw [List.append_nil]
  exact ⟨F1, ds, G1, Q', E', i1, g1, q, k.step e1, ke⟩
theorem qe_fnX {x : Str} {p pos : Pos} {e : Expr} {es : List Expr} {k j : Nat} {ps : List Str} {sp : DSpX} {E' : DXK} {t : DA} (F : FnX X.prog X.w X.K X.mg X.base x ps k sp) (hr : Room j X.A) (hj : k ≤ j) (hg : Gl X x) (tk : TK X E') (ha : QA X (e :: es) t)
    (hd : (x == ("__debug__" : Str)) = false := by decide) (hs : starEach (e :: es) X.env = (false, eval e X.env) :: starEach es X.env := by rfl) (hpl : (backTo pos (starEach es X.env)).any (·.1) = false := by rfl) :
    QE X (.Call (.Name x p) (e :: es) [] pos) (dCallX sp E' t) := by
  obtain ⟨f, fd, h1, h2, h3, h4⟩ := F.ex
  obtain ⟨E, tk, ke⟩ := tk.ex
  exact PE.weak (pe_call h1 (hr.mono hj) hg h2 h3 h4 .nil (passes_call (E := E) tk fun _ _ _ _ h => h) ha hd hs hpl) fun _ _ _ z => lE_callX ke z
/-- .. whose exceptions are not wanted: it doesn't raise -/
theorem FnX.fn {P : Program} {w : World} {K : PySem.W.Frag} {mg : Str → Option Value} {base : Heap} {x : Str} {ps : List Str} {k : Nat} {sp : DSpX} {sp' : DSp} (F : FnX P w K mg base x ps k sp) (h : ∀ ds G Q, sp' ds G Q → sp ds G Q noX) : Fn P w K mg base x ps k sp' := by
  obtain ⟨f, fd, h1, h2, h3, h4⟩ := F.ex
  refine ⟨f, fd, ⟨fun vs H Q E z => ?_, fun A outer s H args us vs Q E hr e0 hb hv z => ?_⟩, h2, h3, h4⟩
  · obtain ⟨F1, ds, G, Q', a, b, c, d⟩ := z
    exact h1.len vs H Q (fun _ _ _ => False) ⟨F1, ds, G, Q', noX, a, b, h _ _ _ c, d, fun _ _ _ _ _ _ q => q⟩
  · obtain ⟨F1, ds, G, Q', a, b, c, d⟩ := z
    refine codeAny_mono (h1.run A outer s H args us vs Q (fun _ _ _ => False) hr e0 hb hv ⟨F1, ds, G, Q', noX, a, b, h _ _ _ c, d, fun _ _ _ _ _ _ q => q⟩) fun r s' hq => ?_
    cases r with
    | error e =>
      obtain ⟨_, _, _, _, _, _, _, _, _, _, _, _, z⟩ := (show L2.CX P w outer H s (fun _ _ _ => False) e s' from hq)
      exact z.elim
    | ok fl => cases fl <;> exact hq
/-- a body that may raise -/
theorem fn_okX {P : Program} {w : World} {K : PySem.W.Frag} {mg : Str → Option Value} {base : Heap} {x qual : Str} {params : Arguments} {body : List Stmt} {scope : Scope} {kws : List (Str × V)} {f : Addr} {fd : FuncData} {N ps : List Str} {k : Nat} {sp : DSpX} {b : DXK → DS}
    (F : FunD K x qual params body scope [] kws f fd) (S : FnScope N ps scope) (len : ∀ ds G Q E', sp ds G Q E' → ds.length = ps.length)
    (hb : ∀ (cdv : Value) (A : Around) (outer : List Env) (s : Shared) (H : Hp) (E : XK) (E' : DXK), Room k (A.deeper (envOfC qual scope s.heap.objs.size f cdv)) → TK (cxOf (L2.CX P w) P w K mg base N qual scope f cdv A outer s H E) E' → QSs (cxOf (L2.CX P w) P w K mg base N qual scope f cdv A outer s H E) body (b E'))
    (hr : ∀ ds G Q E', sp ds G Q E' → vN (b (vX E') { nx := fun _ G' => vR Q .non G', rt := vR Q }) (startD N ds) G) : FnOk P w K mg base (L2.CX P w) (k + 1) f fd ps (lSpX sp) := by
  refine F.ok S (fun vs H Q E h => ?_) (fun cdv A outer s H vs Q E hroom h => ?_)
  · obtain ⟨F1, ds, G, Q', E', hl, hg, h, k⟩ := h
    rw [hl.length]
    exact len ds G Q' E' h
  · obtain ⟨F1, ds, G, Q', E', hl, hg, h, k, ke⟩ := h
    refine ⟨_, hb cdv A outer s H E (vX E') hroom ⟨E, takes_of rfl rfl rfl rfl, ke.vX⟩, ?_⟩
    obtain ⟨F2, s2, G2, e2, i2, g2, h2⟩ := hr ds G Q' E' h F1 H _ (start_ok hl) hg
    have k2 := k.step e2
    exact lS_b i2 g2 h2 ⟨fun σ' H' F' s' G' e i g q => k2.vR _ H' F' _ G' e g (is_non.mpr rfl) q, k2.vR, fun _ _ _ _ _ _ _ _ q => q.elim, fun _ _ _ _ _ _ _ _ q => q.elim⟩
/-! ### raise C('..'), C without an own __init__ -/
def dRaise0 (C : Addr) (E' : DXK) : DS := fun _ _ G => E' C none G
theorem qs_raise0 {x m : Str} {j : Nat} {p p2 p3 pos : Pos} {C : Addr} {bmB : List Value} {B newId initId : String} {E' : DXK} (hc : X.calm = true) (tk : TK X E') (F : ExcBaseFacts B newId initId bmB) (q : PySem.W.excIn X.K C bmB newId = true) (gC : X.mg x = some (.ref C)) (kC : PySem.W.keepIn X.K (.ref C) = true) (r : Raises X (.ref C)) (hg : Gl X x)
    (hdb : (x == ("__debug__" : Str)) = false := by decide) : QS X (.Raise (some (.Call (.Name x p) [.Constant (.str m) j p2] [] p3)) none pos) (dRaise0 C E') := by
  obtain ⟨E, tk, ke⟩ := tk.ex
  refine PS.weak (ps_raise hc tk (pmk_own F q gC kC r hg hdb)) fun D σ H h => ?_
  obtain ⟨F1, s, G, D', hs, hg, h, k⟩ := h
  exact ke F1 H G C none hg h
/-! ### an own __init__: PortError.__init__(self, number); self.number = number -/
theorem pe_binit {x : Str} {CP : Addr} {mc : Value} {e : Expr} {es : List Expr} {ta : TA} {p1 p2 pos : Pos} {pl : Sem Bool} (hg : Gl X x) (hm : X.mg x = some (.ref CP)) (rd : PySem.W.readsIn X.K CP mc = true) (ga : PySem.W.specialIn X.K (.ref CP) "__getattribute__" = some (some (.builtin "type.__getattribute__")))
    (vV : PySem.W.findCls X.K (.ref CP) mc "__init__" = some (.val (.builtin "ValueError.__init__"))) (ha : PA X (e :: es) ta)
    (hc : eval (.Call (.Attribute (.Name x p1) "__init__" p2) (e :: es) [] pos) X.env = (do
      let ov ← eval (.Name x p1) X.env
      standAt p2.atName
      let (f, first) ← holding [ov] (getMethod ov "__init__" pl)
      callWith pos f first (backTo pos (starEach (e :: es) X.env)) (backToKw pos (keywordEach [] X.env))) := by rfl)
    (hdb : (x == ("__debug__" : Str)) = false := by decide)
    (he : starEach (e :: es) X.env = (false, eval e X.env) :: starEach es X.env := by rfl) (hpl : (backTo pos (starEach es X.env)).any (·.1) = false := by rfl) :
    PE X (.Call (.Attribute (.Name x p1) "__init__" p2) (e :: es) [] pos) (tVeI X.K ta) := by
  refine ⟨fun pins s σ H Q I h => ?_⟩
  refine PySem.W.methodCall_KW (ld_glob I hg hm ?_ hdb) hc
  refine PySem.W.method_cls I.kIn ga (PySem.W.cls_value I.kIn rd vV (by decide +kernel) ?_)
  show wpAny _ _ (callWith pos (Value.builtin "ValueError.__init__") [] (backTo pos (starEach (e :: es) X.env)) []) _ _ _
  refine PyProof.Rows.callWith_method1 (thn (ha.run pos pins _ σ H _ (I.tok _) h) fun us s1 hh => ?_) he hpl
  obtain ⟨vs, H1, I1, r1, a, C, ws, ev, hl, T, ea, q⟩ := hh
  subst ev
  cases r1 with
  | @cons _ u0 _ ur ra rw' =>
    cases (show u0 = Value.ref a from ra)
    refine oinit_ok T I1 ea ?_ fun s' J => ⟨.non, H1, J, rfl, q⟩
    rw [← Paired.length rw', sizeLine_eq]
    omega
/-- the promise of such an __init__ -/
def spIni (K : PySem.W.Frag) (f : Str) : Sp := fun vs H Q _ => ∃ (a C : Addr) (y : V), vs = [.ref a, y] ∧ OexC K C ∧ PySem.W.findIn K (.ref C) f = some none ∧ H a = some (exo a C none) ∧ ∀ dx, H dx = none → dx ≠ a → Q .non (upd (upd H dx (exd dx [(f, y)])) a (exo a C (some dx)))
theorem len_ini {K : PySem.W.Frag} {f : Str} : ∀ vs H Q E, spIni K f vs H Q E → vs.length = 2 := by
  rintro vs H Q E ⟨a, C, y, rfl, _⟩
  rfl
theorem ini_ok {P : Program} {w : World} {K : PySem.W.Frag} {mg : Str → Option Value} {base : Heap} {x qual p1 p2 fl : Str} {params : Arguments} {body : List Stmt} {scope : Scope} {kws : List (Str × V)} {f : Addr} {fd : FuncData} {k : Nat}
    (F : FunD K x qual params body scope [] kws f fd) (S : FnScope [p1, p2] [p1, p2] scope)
    (hb : ∀ (cdv : Value) (A : Around) (outer : List Env) (s : Shared) (H : Hp) (E : XK), Room k (A.deeper (envOfC qual scope s.heap.objs.size f cdv)) →
      PSs (cxOf CX0 P w K mg base [p1, p2] qual scope f cdv A outer s H E).nox body (tSeq (tDrop (tVeI K (tCons (tVar 0) (tCons (tVar 1) tNil)))) (tOst K fl (tVar 0) (tVar 1)))) : FnOk P w K mg base CX0 (k + 1) f fd [p1, p2] (spIni K fl) := by
  refine F.ok S (fun vs H Q E h => ?_) (fun cdv A outer s H vs Q E hroom h => ⟨_, PSs.nox (hb cdv A outer s H E hroom), ?_⟩)
  · obtain ⟨a, C, y, rfl, _⟩ := h
    rfl
  · obtain ⟨a, C, y, rfl, T, hno, ea, q⟩ := h
    refine ⟨.ref a, rfl, y, rfl, a, C, [y], rfl, Nat.le_of_ble_eq_true rfl, T, ea, ?_⟩
    refine ⟨y, rfl, .ref a, rfl, a, C, rfl, T, hno, .inl ⟨ea, fun dx hdx ne => ?_⟩⟩
    exact q dx hdx ne
/-- a class with such an __init__ -/
structure XCls (P : Program) (w : World) (K : PySem.W.Frag) (mg : Str → Option Value) (base : Heap) (x : Str) (C : Addr) (k : Nat) (f : Str) : Prop where
  ex : ∃ fI fd ps, OexC K C ∧ PySem.W.findIn K (.ref C) f = some none ∧ PySem.W.findIn K (.ref C) "__init__" = some (some (.ref fI)) ∧ PySem.W.typeIn K (.ref fI) = some (.type "function") ∧ FnOk P w K mg base CX0 k fI fd ps (spIni K f) ∧ Binds K fd ps [] ∧ mg x = some (.ref C)
abbrev xdG (G : Gp) (d : Addr) (f : Str) (n : Int) : Gp := ud G d (.sm (.raw (.xd [(f, .int n)])))
def dRaiseN (C : Addr) (f : Str) (E' : DXK) (t : DA) : DS := fun _ s G => t s G fun ds G1 => ∃ n, ds = [.int n] ∧ ∀ d, G1 d = none → E' C (some d) (xdG G1 d f n)
theorem sm_xd {F : Fz} {H : Hp} {fs : List (Str × V)} : Sm F H (.raw (.xd fs)) (.xd fs) := by
  refine ⟨rfl, ?_, ?_⟩
  · intro xs z
    cases z
  · intro z q
    unfold FzO at q
    cases q
theorem xd_end {H : Hp} {a C dx : Addr} {fs : List (Str × V)} (ha : H a = none) (hne : dx ≠ a) :
    upd (del (upd (upd (upd H a (exo a C none)) dx (exd dx fs)) a (exo a C (some dx))) a) dx (.xd fs) = upd H dx (.xd fs) := by
  funext b
  by_cases h1 : b = dx
  · rw [h1, upd_same, upd_same]
  · rw [upd_ne h1, upd_ne h1]
    by_cases h2 : b = a
    · rw [h2, del_same, ha]
    · rw [del_ne h2, upd_ne h2, upd_ne h1, upd_ne h2]
theorem qs_raiseN {x f : Str} {p p3 pos : Pos} {C : Addr} {k j : Nat} {e : Expr} {t : DA} {E' : DXK} (M : XCls X.prog X.w X.K X.mg X.base x C k f) (hc : X.calm = true) (tk : TK X E') (hr : Room j X.A) (hj : k + 1 ≤ j) (hg : Gl X x) (ha : QA X [e] t)
    (hdb : (x == ("__debug__" : Str)) = false := by decide) (he : starEach [e] X.env = (false, eval e X.env) :: starEach [] X.env := by rfl) (hpl : (backTo p3 (starEach [] X.env)).any (·.1) = false := by rfl) :
    QS X (.Raise (some (.Call (.Name x p) [e] [] p3)) none pos) (dRaiseN C f E' t) := by
  obtain ⟨E, tk, ke⟩ := tk.ex
  obtain ⟨fI, fd, ps, T, hno, iC, tI, F1, hb, gC⟩ := M.ex
  refine PS.weak (ps_raise hc tk (pmk_oex T iC tI F1 (hr.mono hj) hb .nil pass0 hg gC ha hdb he hpl)) fun D σ H h => ?_
  obtain ⟨F, s, G, D', hs, hg, h, k⟩ := h
  refine lA_b hs hg h fun vs H1 F1 ds G1 e1 s1 g1 i1 ⟨n, eds, q⟩ => ?_
  subst eds
  obtain ⟨v, rfl, iv⟩ := isL_one i1
  rw [is_int.mp iv]
  refine ⟨Nat.le_of_ble_eq_true rfl, fun a na => ⟨a, C, .int n, rfl, T, hno, upd_same, fun dx hdx ne => ⟨rfl, dx, [(f, .int n)], upd_same, ?_, ?_, ?_⟩⟩⟩
  · rw [upd_ne ne, upd_same]
  · rw [upd_ne ne] at hdx
    exact hdx
  · rw [xd_end na ne]
    rw [upd_ne ne] at hdx
    exact ke F1 _ _ C _ (g1.new hdx sm_xd) (q dx (g1.fresh hdx))
end
end Dg

/-! Functions that a lambda made. -/
namespace Dg
open PySem PySem.Spec L2
open PyProof.Rows (envOfC)
theorem fzO_ok {P : Program} {w : World} {H : Hp} {h : Heap} {a : Addr} {o : Obj} (e : h.get? a = some o) : ObjOk P w H h a (FzO o) := ⟨e, trivial, ⟨o, e⟩, fun _ _ _ _ => trivial⟩
theorem fzO_at {P : Program} {w : World} {H : Hp} {h : Heap} {a : Addr} {o : Obj} (hok : HOk P w H h) (e : H a = some (FzO o)) : h.get? a = some o := (hok a _ e).1
section
variable {X : Cx} {pins : List (Addr × Obj)} {σ : St} {H : Hp} {s : Shared}
theorem inv_fz {a : Addr} {φ : Heap → Prop} {o : Obj} (I : Inv X pins σ H s) (e : H a = some (.ext φ)) (ho : s.heap.get? a = some o) : Inv X pins σ (upd H a (FzO o)) s :=
  I.write (t' := s.toks) (x := a) (e := a) (o := FzO o) (h' := s.heap) (by rw [e]; trivial) (.inl rfl) (fun b u _ q => q) ⟨o, ho⟩ (fzO_ok ho)
end
/-! ### captured names -/
def frN : List (Str × NameKind) → List Str → List Str
  | [], acc => acc
  | (n, k) :: r, acc => if k == .free then frN r (n :: acc) else frN r acc
theorem clo_names {cells : List (Str × Addr)} : ∀ {names : List (Str × NameKind)} {acc : List (Str × Addr)}, (cloFrom cells names acc).map (·.1) = frN names (acc.map (·.1))
  | [], acc => rfl
  | (n, k) :: r, acc => by
    unfold cloFrom frN
    cases hk : k == NameKind.free with
    | true => exact clo_names (acc := (n, (cells.lookup n).getD 0) :: acc)
    | false => exact clo_names (acc := acc)
theorem nd_snd : ∀ {l : List (Str × Addr)}, (l.map (·.1)).Nodup → (∀ x y c, (x, c) ∈ l → (y, c) ∈ l → x = y) → (l.map (·.2)).Nodup
  | [], _, _ => List.nodup_nil
  | p :: l, h1, h2 => by
    rw [List.map_cons, List.nodup_cons] at h1
    rw [List.map_cons, List.nodup_cons]
    refine ⟨fun hm => ?_, nd_snd h1.2 fun x y c hx hy => h2 x y c (List.mem_cons_of_mem _ hx) (List.mem_cons_of_mem _ hy)⟩
    obtain ⟨q, hq, e⟩ := List.mem_map.mp hm
    have e2 := h2 p.1 q.1 p.2 List.mem_cons_self (by rw [← e]; exact List.mem_cons_of_mem _ hq)
    exact h1.1 (List.mem_map.mpr ⟨q, hq, e2.symm⟩)
theorem clo_nd {X : Cx} {scope : Scope} (ok : X.Ok) (L : LamX.LamS X.env.scope scope) (hn : (frN scope.names []).Nodup) : ((cloFrom X.env.cells scope.names []).map (·.2)).Nodup := by
  refine nd_snd (by rw [clo_names]; exact hn) fun x y c hx hy => ?_
  have key : ∀ z, (z, c) ∈ cloFrom X.env.cells scope.names [] → X.env.cells.lookup z = some c := fun z hz => by
    rcases cloFrom_mem hz with q | ⟨h1, h2⟩
    · cases q
    · obtain ⟨c1, hc⟩ := L.has ok _ h1 rfl
      have hc : X.env.cells.lookup z = some c1 := hc
      rw [hc] at h2
      rw [hc, h2]
      rfl
  exact ok.inj x y c (key x hx) (key y hy)
/-! ### lambda: body -/
def dLam (P : Addr) (L : LamR) : DE := fun _ G Q => ∃ g, G P = some (.sm (.tab L.q g)) ∧ ∀ f, G f = none → Q (.ref f) (ud G f (.sm (.fn L none)))
theorem upd_comm {H : Hp} {a b : Addr} {x y : HO} (h : a ≠ b) : upd (upd H a x) b y = upd (upd H b y) a x := by
  funext c
  unfold upd
  by_cases e1 : c = b
  · rw [if_pos e1, if_neg (fun z => h (z.symm.trans e1)), if_pos e1]
  · rw [if_neg e1, if_neg e1]
section
variable {X : Cx}
theorem qe_lam {c P : Addr} {params : Arguments} {body : Expr} {scope : Scope} {pos : Pos} (TB : LamX.TabB X.base X.mg c P) (hcode : X.env.code = .ref c) (L : LamX.LamS X.env.scope scope) (hn : (frN scope.names []).Nodup) (hdef : defaultsOf params X.env = ([], []) := by rfl) :
    QE X (.Lambda params body scope pos) (dLam P ⟨X.env.qual ++ "<lambda>", params, body, scope, cloFrom X.env.cells scope.names []⟩) := by
  refine ⟨fun pins s σ H Q I h => ?_⟩
  obtain ⟨F, d, G, Q', hs, hg, ⟨g, hP, h⟩, k⟩ := h
  obtain ⟨z, hz, ⟨ps, rfl, ht, ha⟩, hog⟩ := hg.get hP
  have ha : ∀ (pos : Pos) (cv : Value), codeAmong pos ps.toList = some cv → ∃ c, cv = .ref c ∧ CodeN H c (X.env.qual ++ "<lambda>") := ha
  refine PySem.W.kla_eval hdef ?_
  have bP : s.heap.BuiltinsAt X.mg P := TB.bm.keeps I.bk
  have oP : s.heap.get? P = some { cls := .none, data := .fields ps } := I.hok P _ hz
  have nd := clo_nd I.ok L hn
  have fin : ∀ (H1 : Hp) (s1 : Shared) (c' : Addr) (pm ctv : Value) (tk : Nat), Inv X pins σ H1 s1 → Ext F H F H1 → Hg F H1 G → CodeN H1 c' (X.env.qual ++ "<lambda>") →
      EP X pins σ Q (.ref s1.heap.objs.size) { s1 with heap := s1.heap.push (PySem.W.kla_obj "<lambda>" (X.env.qual ++ "<lambda>") params body scope (cloFrom X.env.cells scope.names []) pm c' ctv), toks := tk } := by
    intro H1 s1 c' pm ctv tk I1 e1 g1 hc
    have hn1 : H1 s1.heap.objs.size = none := I1.hok.fresh (Nat.le_refl _)
    have ho : (s1.heap.push (PySem.W.kla_obj "<lambda>" (X.env.qual ++ "<lambda>") params body scope (cloFrom X.env.cells scope.names []) pm c' ctv)).get? s1.heap.objs.size = some (PySem.W.kla_obj "<lambda>" (X.env.qual ++ "<lambda>") params body scope (cloFrom X.env.cells scope.names []) pm c' ctv) := Heap.get?_push_size _ rfl
    have I2 := I1.laid (t' := tk) (a := s1.heap.objs.size) (o := FzO (PySem.W.kla_obj "<lambda>" (X.env.qual ++ "<lambda>") params body scope (cloFrom X.env.cells scope.names []) pm c' ctv)) (fun b u e => Heap.get?_push_of_some _ e) (Nat.le_refl _) (fzO_ok ho)
    have e2 : Ext F H1 F _ := ext_new (o := FzO (PySem.W.kla_obj "<lambda>" (X.env.qual ++ "<lambda>") params body scope (cloFrom X.env.cells scope.names []) pm c' ctv)) g1.fok hn1
    exact ⟨.ref s1.heap.objs.size, _, I2, rfl, k _ _ F _ _ (e1.trans e2) (g1.new (o := .fn ⟨X.env.qual ++ "<lambda>", params, body, scope, cloFrom X.env.cells scope.names []⟩ none) hn1 ⟨nd, pm, ctv, c', rfl, hc.mono e2, fun es z => by cases z⟩) (is_ref.mpr rfl) (h _ (g1.fresh hn1))⟩
  cases hc : codeAmong pos ps.toList with
  | none =>
    refine PySem.W.kla_makeFunction (mg := X.mg) (c := c) (P := P) (ps := ps) (closure_ok (L.has I.ok)) I.ok.glob (I.mod.glob.keeps I.bk) hcode (TB.code.keeps I.bk) oP ht hc TB.gP bP fun c' ctv h' tk hx hge hlt hrec htb => ?_
    obtain ⟨c2, oc, vs, t, e2, hoc, hd, hv⟩ := hrec
    cases e2
    have nC : H c' = none := I.hok.fresh hge
    have nP : P ≠ c' := ne_of_none hz nC
    have I1 := LamX.inv_table (q := X.env.qual ++ "<lambda>") (t' := tk) (more := #[rawInt pos.line, rawInt pos.col, .ref c']) (h' := h') I hz (fun b o hb e => hx b o hb e) htb hge ⟨oc, vs, t, hoc, hd, hv⟩
    have I2 := inv_fz (a := c') I1 upd_same hoc
    rw [upd_upd, upd_comm nP] at I2
    have e1 : Ext F H F (upd H c' (FzO oc)) := ext_new hg.fok nC
    have g1 : Hg F (upd H c' (FzO oc)) G := hg.newT nC
    have e2 := ext_own (z := .tbl (ps ++ #[rawInt pos.line, rawInt pos.col, .ref c'])) g1 hP
    have hc1 : CodeN (upd (upd H c' (FzO oc)) P (.tbl (ps ++ #[rawInt pos.line, rawInt pos.col, .ref c']))) c' (X.env.qual ++ "<lambda>") := CodeN.mono e2 ⟨oc, vs, t, upd_same, hd, hv⟩
    have g2 := g1.set (o := .tab (X.env.qual ++ "<lambda>") g) (o' := .tab (X.env.qual ++ "<lambda>") g) (z := .tbl (ps ++ #[rawInt pos.line, rawInt pos.col, .ref c'])) hP (by
      refine ⟨⟨_, rfl, ?_, fun p' cv hcv => ?_⟩, fun p hp => (hog p hp).trans (e1.trans e2)⟩
      · rw [Array.toList_append]
        exact PySem.TriplesOk_snoc _ _ _ _ ht
      · rw [Array.toList_append] at hcv
        rcases LamX.among_app _ ht hcv with q | q
        · obtain ⟨c0, h1, h2⟩ := ha p' cv q
          exact ⟨c0, h1, h2.mono (e1.trans e2)⟩
        · exact ⟨c', q, hc1⟩)
    rw [ud_self hP] at g2
    exact fin _ _ c' _ ctv tk I2 (e1.trans e2) g2 hc1
  | some cv =>
    obtain ⟨c', e, hco⟩ := ha pos cv hc
    subst e
    refine PySem.W.kla_makeFunctionHit (mg := X.mg) (c := c) (P := P) (ps := ps) (closure_ok (L.has I.ok)) I.ok.glob (I.mod.glob.keeps I.bk) hcode (TB.code.keeps I.bk) oP ht hc bP fun ctv h' tk hx hsz => ?_
    have I1 : Inv X pins σ H { s with heap := h', toks := tk } := I.kept hx
    exact fin _ _ c' _ ctv tk I1 (Ext.refl F H) hg hco
end
end Dg

/-! What a function captured is hidden while it runs. -/
namespace Dg
open PySem PySem.Spec L2
def hid (H : Hp) (as : List Addr) : Hp := fun b => if b ∈ as then none else H b
def unh (H : Hp) (as : List Addr) (H' : Hp) : Hp := fun b => if b ∈ as then H b else H' b
theorem hid_in {H : Hp} {as : List Addr} {b : Addr} (h : b ∈ as) : hid H as b = none := if_pos h
theorem hid_out {H : Hp} {as : List Addr} {b : Addr} (h : b ∉ as) : hid H as b = H b := if_neg h
theorem unh_in {H H' : Hp} {as : List Addr} {b : Addr} (h : b ∈ as) : unh H as H' b = H b := if_pos h
theorem unh_out {H H' : Hp} {as : List Addr} {b : Addr} (h : b ∉ as) : unh H as H' b = H' b := if_neg h
/-- all of them are cells -/
def Cl (H : Hp) (as : List Addr) : Prop := ∀ c ∈ as, ∃ (oc : Obj) (v : Option Value), H c = some (FzO oc) ∧ oc.data = .cell v
theorem CellsN.cl {H : Hp} : ∀ {as : List Addr} {vs : List V}, CellsN H as vs → Cl H as
  | _, _, .nil => fun c h => by cases h
  | _, _, .cons (b := v) r t => fun c h => by
    rcases List.mem_cons.mp h with q | q
    · subst q
      obtain ⟨oc, u, h1, h2, _⟩ := r
      exact ⟨oc, some u, h1, h2⟩
    · exact CellsN.cl t c q
theorem hid_some {H : Hp} {as : List Addr} {b : Addr} {o : HO} (h : hid H as b = some o) : b ∉ as ∧ H b = some o := by
  by_cases hb : b ∈ as
  · rw [hid_in hb] at h
    cases h
  · rw [hid_out hb] at h
    exact ⟨hb, h⟩
section
variable {H : Hp} {as : List Addr} (C : Cl H as)
theorem Cl.ne {b : Addr} {o : HO} (C : Cl H as) (h : H b = some o) (n : ∀ z, o ≠ FzO z) : b ∉ as := fun hb => by
  obtain ⟨oc, v, h1, _⟩ := C b hb
  rw [h] at h1
  exact n _ (Option.some.inj h1)
theorem Cl.neD {b : Addr} {z : Obj} (C : Cl H as) (h : H b = some (FzO z)) (n : ∀ v, z.data ≠ .cell v) : b ∉ as := fun hb => by
  obtain ⟨oc, v, h1, h2⟩ := C b hb
  rw [h] at h1
  have e : z = oc := by
    have q := Option.some.inj h1
    unfold FzO at q
    cases q
    rfl
  subst e
  exact n v h2
theorem Cl.no {b : Addr} (C : Cl H as) (h : H b = none) : b ∉ as := fun hb => by
  obtain ⟨oc, v, h1, _⟩ := C b hb
  rw [h] at h1
  cases h1
theorem lst_fz {vs : List V} (z : Obj) : HO.lst vs ≠ FzO z := by
  intro q
  unfold FzO at q
  cases q
theorem tup_fz {vs : List V} (z : Obj) : HO.tup vs ≠ FzO z := by
  intro q
  unfold FzO at q
  cases q
theorem own_fz {x : Addr} (z : Obj) : HO.own x ≠ FzO z := by
  intro q
  unfold FzO at q
  cases q
theorem tbl_fz {x : Array Value} (z : Obj) : HO.tbl x ≠ FzO z := by
  intro q
  unfold FzO at q
  cases q
theorem ex_hid {F : Fz} {H : Hp} {as : List Addr} (C : Cl H as) (fok : Fok F H) : Ex3 F H F (hid H as) :=
  ⟨fun _ h => h, fun a ha => by
    obtain ⟨vs, h⟩ := fok a ha
    exact hid_out (C.ne h lst_fz), fun a xs h => by
    rw [hid_out (C.ne h tup_fz)]
    exact h⟩
end
/-! ### the machine's side -/
section
variable {P : Program} {w : World} {K : PySem.W.Frag} {mg : Str → Option Value} {base : Heap} {A : Around} {outer : List Env} {s s' : Shared} {H H' : Hp} {as : List Addr}
theorem hok_hid {h : Heap} (C : Cl H as) (hok : HOk P w H h) : HOk P w (hid H as) h := fun b o e => by
  obtain ⟨hb, e⟩ := hid_some e
  refine (hok b o e).stay (fun c u _ q => q) (fun c q => ?_) fun c xs q => ?_
  · rw [hid_out (C.ne q own_fz)]
    exact q
  · rw [hid_out (C.ne q tup_fz)]
    exact q
theorem env_hid (C : Cl H as) (e : Env0 P w K mg base A outer s H) : Env0 P w K mg base A outer s (hid H as) := by
  refine ⟨e.frames, e.mod, fun b o q => ?_, e.bsz, e.funs, fun b q => ?_, hok_hid C e.hok, e.bare⟩
  · obtain ⟨h1, h2⟩ := e.bs b o q
    exact ⟨h1, by rw [hid_out (C.no h2)]; exact h2⟩
  · rw [hid_out (C.no (e.frf b q))]
    exact e.frf b q
/-- shown again: h is where all but frames and such stand -/
theorem hok_unh {h : Heap} (hcell : ∀ c ∈ as, ∃ oc, H c = some (FzO oc) ∧ h.get? c = some oc) (hn : ∀ c ∈ as, H' c = none) (hok : HOk P w H' h) : HOk P w (unh H as H') h := fun b o e => by
  by_cases hb : b ∈ as
  · rw [unh_in hb] at e
    obtain ⟨oc, h1, h2⟩ := hcell b hb
    rw [e] at h1
    cases h1
    exact fzO_ok h2
  · rw [unh_out hb] at e
    have keep : ∀ c u, H' c = some u → unh H as H' c = some u := fun c u q => by
      rw [unh_out fun hc => by rw [hn c hc] at q; cases q]
      exact q
    exact (hok b o e).stay (fun c u _ q => q) (fun c q => keep c _ q) fun c xs q => keep c _ q
theorem ce_unh {Q : VK} {u : Value} (C : Cl H as) (e0 : Env0 P w K mg base A outer s H) (h : CE outer P w (hid H as) s (fun v H' => (∀ c ∈ as, H' c = none) → Q v (unh H as H')) u s') : CE outer P w H s Q u s' := by
  obtain ⟨v, H', os, bare, un, hok, r, q⟩ := h
  have cell : ∀ c ∈ as, ∃ oc, H c = some (FzO oc) ∧ s.heap.get? c = some oc ∧ c ∉ frs outer := fun c hc => by
    obtain ⟨oc, v, h1, _⟩ := C c hc
    refine ⟨oc, h1, fzO_at e0.hok h1, fun z => ?_⟩
    rw [e0.frf c z] at h1
    cases h1
  have hn : ∀ c ∈ as, H' c = none := fun c hc => by
    obtain ⟨oc, _, h2, _⟩ := cell c hc
    exact un.free c oc h2 (hid_in hc) (by simp)
  refine ⟨v, unh H as H', os, bare, ⟨fun b o e n hb hx => un.keep b o e ?_ hb hx, fun b o e n hb hx => un.slot b o e ?_ hb hx, fun b o e n hx => ?_, un.there, fun b xs e => ?_, fun b o x e => ?_, fun b ps e => ?_⟩, hok_unh (fun c hc => ?_) hn hok, r, q hn⟩
  · rw [hid_out (C.no n)]; exact n
  · rw [hid_out (C.no n)]; exact n
  · rw [unh_out (C.no n)]
    exact un.free b o e (by rw [hid_out (C.no n)]; exact n) hx
  · have nb := C.ne e tup_fz
    rw [unh_out nb]
    exact un.tups b xs (by rw [hid_out nb]; exact e)
  · by_cases hb : b ∈ as
    · rw [unh_in hb]
      exact e
    · rw [unh_out hb]
      exact un.frzs b o x (by rw [hid_out hb]; exact e)
  · have nb := C.ne e tbl_fz
    rw [unh_out nb]
    exact un.tbls b ps (by rw [hid_out nb]; exact e)
  · obtain ⟨oc, h1, h2, h3⟩ := cell c hc
    exact ⟨oc, h1, un.keep c oc h2 (hid_in hc) h3 (by simp)⟩
theorem cx_unh {E : XK} {u : Value} (C : Cl H as) (e0 : Env0 P w K mg base A outer s H) (h : L2.CX P w outer (hid H as) s (fun cls d H' => (∀ c ∈ as, H' c = none) → E cls d (unh H as H')) u s') : L2.CX P w outer H s E u s' := by
  obtain ⟨a, B, H', cls, d, e, fl, hok, ub, na, os, ag, q⟩ := h
  have cell : ∀ c ∈ as, ∃ oc, H c = some (FzO oc) ∧ s.heap.get? c = some oc ∧ c ∉ frs outer := fun c hc => by
    obtain ⟨oc, v, h1, _⟩ := C c hc
    refine ⟨oc, h1, fzO_at e0.hok h1, fun z => ?_⟩
    rw [e0.frf c z] at h1
    cases h1
  have hn : ∀ c ∈ as, H' c = none := fun c hc => by
    obtain ⟨oc, _, h2, _⟩ := cell c hc
    exact ub.free c oc h2 (hid_in hc)
  have hB : ∀ c ∈ as, ∃ oc, H c = some (FzO oc) ∧ B.get? c = some oc := fun c hc => by
    obtain ⟨oc, h1, h2, h3⟩ := cell c hc
    exact ⟨oc, h1, ub.keep c oc h2 (hid_in hc) h3⟩
  have nas : a ∉ as := fun ha => by
    obtain ⟨oc, _, h2⟩ := hB a ha
    rw [fl.2.1] at h2
    cases h2
  refine ⟨a, B, unh H as H', cls, d, e, fl, hok_unh hB hn hok, ⟨fun b o e n hb => ub.keep b o e ?_ hb, ub.slot, fun b o e n => ?_, ub.there, fun b xs e => ?_, fun b o x e => ?_, fun b ps e => ?_⟩, by rw [unh_out nas]; exact na, os, ag, q hn⟩
  · rw [hid_out (C.no n)]; exact n
  · rw [unh_out (C.no n)]
    exact ub.free b o e (by rw [hid_out (C.no n)]; exact n)
  · have nb := C.ne e tup_fz
    rw [unh_out nb]
    exact ub.tups b xs (by rw [hid_out nb]; exact e)
  · by_cases hb : b ∈ as
    · rw [unh_in hb]
      exact e
    · rw [unh_out hb]
      exact ub.frzs b o x (by rw [hid_out hb]; exact e)
  · have nb := C.ne e tbl_fz
    rw [unh_out nb]
    exact ub.tbls b ps (by rw [hid_out nb]; exact e)
end
/-! ### the function runs -/
abbrev LamR.nf (L : LamR) (c : Addr) : NdefX.NF := ⟨"<lambda>", L.q, L.params, [], L.scope, L.cl, c⟩
theorem lookup_nd : ∀ {l : List (Str × Addr)} {i : Nat} {y : Str} {c : Addr}, (l.map (·.1)).Nodup → l[i]? = some (y, c) → l.lookup y = some c
  | [], i, y, c, _, h => by simp at h
  | p :: l, 0, y, c, hn, h => by
    have e : p = (y, c) := by simpa using h
    subst e
    simp [List.lookup]
  | p :: l, i + 1, y, c, hn, h => by
    have h2 : l[i]? = some (y, c) := by simpa using h
    rw [List.map_cons, List.nodup_cons] at hn
    have ne : y ≠ p.1 := fun e => hn.1 (List.mem_map.mpr ⟨(y, c), List.mem_of_getElem? h2, e⟩)
    have ih := lookup_nd hn.2 h2
    obtain ⟨a, b⟩ := p
    have e : (y == a) = false := by simpa using ne
    simp [List.lookup, e, ih]
theorem mem_nd : ∀ {l : List (Str × Addr)} {x y : Str} {c : Addr}, (l.map (·.2)).Nodup → (x, c) ∈ l → (y, c) ∈ l → x = y
  | [], _, _, _, _, h, _ => by cases h
  | p :: l, x, y, c, hn, h1, h2 => by
    rw [List.map_cons, List.nodup_cons] at hn
    rcases List.mem_cons.mp h1 with e1 | e1
    · rcases List.mem_cons.mp h2 with e2 | e2
      · rw [← e1] at e2
        exact (congrArg Prod.fst e2).symm
      · subst e1
        exact absurd (List.mem_map.mpr ⟨(y, c), e2, rfl⟩) hn.1
    · rcases List.mem_cons.mp h2 with e2 | e2
      · subst e2
        exact absurd (List.mem_map.mpr ⟨(x, c), e1, rfl⟩) hn.1
      · exact mem_nd hn.2 e1 e2
theorem Paired.getL {α β : Type} {R : α → β → Prop} : ∀ {xs : List α} {ys : List β} {i : Nat} {x : α}, Paired R xs ys → xs[i]? = some x → ∃ y, ys[i]? = some y ∧ R x y
  | _, _, _, _, .nil, e => by simp at e
  | _, _, 0, _, .cons r _, e => by simp at e; subst e; exact ⟨_, rfl, r⟩
  | _, _, i + 1, x, .cons _ t, e => by
    obtain ⟨u, h1, h2⟩ := Paired.getL (i := i) (x := x) t (by simpa using e)
    exact ⟨u, by simpa using h1, h2⟩
theorem cells_at {P : Program} {w : World} {H : Hp} {h : Heap} {cl : List (Str × Addr)} {vs : List V} (hok : HOk P w H h) (hn : (cl.map (·.1)).Nodup) (hn2 : (cl.map (·.2)).Nodup) (C : CellsN H (cl.map (·.2)) vs) :
    NdefX.CellsAt cl (cl.map (·.1)) (vs.map some) h (hid H (cl.map (·.2))) := by
  have len : vs.length = cl.length := by
    have q := Paired.length C
    rw [List.length_map] at q
    exact q.symm
  refine ⟨by rw [List.length_map, List.length_map]; exact len, fun y c e => ?_, fun x y c e1 e2 => mem_nd hn2 (PySem.mem_of_lookup e1) (PySem.mem_of_lookup e2), fun i y e => ?_⟩
  · have hm : c ∈ cl.map (·.2) := List.mem_map.mpr ⟨(y, c), PySem.mem_of_lookup e, rfl⟩
    obtain ⟨oc, v, h1, h2⟩ := C.cl c hm
    exact ⟨hid_in hm, v, oc, fzO_at hok h1, h2⟩
  · rw [List.getElem?_map] at e
    cases q : cl[i]? with
    | none =>
      rw [q] at e
      cases e
    | some p =>
      rw [q] at e
      obtain ⟨y', c⟩ := p
      have e : y' = y := Option.some.inj e
      subst e
      refine ⟨c, lookup_nd hn q, fun v ev => ?_⟩
      obtain ⟨v', hv, oc, u, h1, h2, h3⟩ := Paired.getL (i := i) (x := c) C (by rw [List.getElem?_map, q]; rfl)
      rw [List.getElem?_map, hv] at ev
      cases ev
      exact ⟨u, h3, oc, fzO_at hok h1, h2⟩
theorem lam_run {P : Program} {w : World} {K : PySem.W.Frag} {mg : Str → Option Value} {base : Heap} {k : Nat} {N : List Str} {L : LamR} {f c : Addr} {pm ctv : Value} {A : Around} {outer : List Env} {s : Shared} {H : Hp} {vs : List V} {Q : VK} {E : XK} {tb : TE}
    (S : NdefX.NScope N [] N L.scope) (hN : L.cl.map (·.1) = N) (hn2 : (L.cl.map (·.2)).Nodup) (hb : bindArgs (PySem.W.kla_fn "<lambda>" L.q L.params L.body L.scope L.cl pm (.ref c) ctv) ⟨[], []⟩ = pure [])
    (hr : Room (k + 1) A) (e0 : Env0 P w K mg base A outer s H) (hf : H f = some (FzO (L.o pm ctv c))) (hc : CodeN H c L.q) (C : CellsN H (L.cl.map (·.2)) vs)
    (hbody : Room k (A.deeper (NdefX.envF (L.nf c) f s.heap.objs.size)) → PE (NdefX.ncx (L2.CX P w) P w K mg base N (L.nf c) f A outer s (hid H (L.cl.map (·.2))) (fun cls d H' => (∀ c ∈ L.cl.map (·.2), H' c = none) → E cls d (unh H (L.cl.map (·.2)) H'))) L.body tb)
    (hq : tb (vs.map some) (hid H (L.cl.map (·.2))) fun v H' => (∀ c ∈ L.cl.map (·.2), H' c = none) → Q v (unh H (L.cl.map (·.2)) H')) : codeAny (model P w) A (.call (.ref f) ⟨[], []⟩) (CR (L2.CX P w) outer P w H s Q E) s := by
  have CL := C.cl
  have lim : s.heap.NoLimit := e0.mod.nolimit.keeps fun b o e => (e0.bs b o e).1
  obtain ⟨oc, us, t, h1, h2, h3⟩ := hc
  refine PySem.W.kla_callFunE hr.depth (fzO_at e0.hok hf) rfl S.co S.gen rfl ⟨c, oc, us, t, rfl, fzO_at e0.hok h1, h2, h3⟩ ?_
  rw [hb]
  refine wpAny_pure (wpAny_newFunctionEnv S.nocell (fun y hy => absurd hy (by simp)) (fun h₁ hns hsb => ⟨lim.fresh _ hsb, ?_⟩) S.kind)
  show codeAny _ _ (.expr L.body (NdefX.envF (L.nf c) f s.heap.objs.size)) _ _
  have kp : ∀ b o, s.heap.get? b = some o → h₁.get? b = some o := fun b o e => hsb.extBut b o (Nat.ne_of_lt (Heap.lt_size e)) (Heap.get?_push_of_some _ e)
  have ca := cells_at e0.hok (by rw [hN]; exact S.nd) hn2 C
  rw [hN] at ca
  have I := NdefX.inv_startN (CX := L2.CX P w) (E := fun cls d H' => (∀ c ∈ L.cl.map (·.2), H' c = none) → E cls d (unh H (L.cl.map (·.2)) H')) (F := L.nf c) (f := f) (vs := []) (us := []) (tk := s.toks + ([] : List (Str × Value)).length) S hr.hd (env_hid CL e0) rfl .nil ca hns kp
  have lenN : (vs.map some).length = N.length := ca.len
  have est : NdefX.startF N [] (vs.map some) = vs.map some := by
    show [] ++ (vs.map some ++ List.replicate (N.length - 0 - (vs.map some).length) none) = vs.map some
    rw [lenN, Nat.sub_zero, Nat.sub_self]
    simp
  rw [est] at I
  refine PySem.W.kla_codeExpr (wpAny_mono ((hbody (hr.deeper _)).run [] _ _ _ _ I hq) (fun v s' hs => ?_) fun e s' hs => wpAny_mono hs (fun _ s'' q => cx_unh CL e0 q) fun _ s'' q => cx_unh CL e0 q)
  obtain ⟨w', H', J, rv, q⟩ := hs
  exact ce_unh CL e0 ⟨w', H', J.os, J.bare, J.base, J.hok, rv, q⟩
end Dg

/-! The ghost heap while cells are hidden. -/
namespace Dg
open PySem PySem.Spec L2
theorem IsP.mono3 {κ : Type} {F F' : Fz} {H H' : Hp} (e : Ex3 F H F' H') {kds : List (κ × D)} {kvs : List (κ × V)} (h : IsP F H kds kvs) : IsP F' H' kds kvs :=
  Paired.mapP h fun _ _ z => ⟨z.1, z.2.mono3 e⟩
theorem Sm.mono3 {F F' : Fz} {H H' : Hp} (e : Ex3 F H F' H') {o : SO} {h : HO} (hp : o.pl = true) (s : Sm F H o h) : Sm F' H' o h := by
  cases o with
  | lst ds => obtain ⟨vs, h1, h2⟩ := s; exact ⟨vs, h1, h2.mono3 e⟩
  | dK ds => obtain ⟨vs, h1, h2⟩ := s; exact ⟨vs, h1, h2.mono3 e⟩
  | dT ds => obtain ⟨vs, h1, h2⟩ := s; exact ⟨vs, h1, h2.mono3 e⟩
  | lkK zz ds => obtain ⟨h0, z, vs, h1, h2⟩ := s; exact ⟨h0, z, vs, h1, h2.mono3 e⟩
  | lkT zz ds => obtain ⟨h0, z, vs, h1, h2⟩ := s; exact ⟨h0, z, vs, h1, h2.mono3 e⟩
  | ins C dx fs => obtain ⟨vs, h1, h2⟩ := s; exact ⟨vs, h1, h2.mono3 e⟩
  | scr ns => exact s
  | raw o => exact s
  | fn L ds => cases hp
  | tab q g => cases hp
def hidS (F : Fz) (H0 : Hp) : Option SO → Option SO
  | some (.fn _ _) => none
  | some (.tab q _) => some (.tab q (some (F, H0)))
  | x => x
def hidO (F : Fz) (H0 : Hp) : Option GO → Option GO
  | some (.sm (.fn _ _)) => none
  | some (.sm (.tab q _)) => some (.sm (.tab q (some (F, H0))))
  | x => x
/-- functions are forgotten, tables note how all stands now -/
def hidG (F : Fz) (H0 : Hp) (G : Gp) : Gp := fun b => hidO F H0 (G b)
theorem hidS_pl {F : Fz} {H0 : Hp} {o : SO} (h : o.pl = true) : hidS F H0 (some o) = some o := by
  cases o with
  | fn L ds => cases h
  | tab q g => cases h
  | _ => rfl
theorem hidO_pl {F : Fz} {H0 : Hp} {o : SO} (h : o.pl = true) : hidO F H0 (some (.sm o)) = some (.sm o) := by
  cases o with
  | fn L ds => cases h
  | tab q g => cases h
  | _ => rfl
theorem all_pl {ps : List (Addr × SO)} (h : (ps.all fun p => p.2.pl) = true) {b : Addr} {o : SO} (hm : (b, o) ∈ ps) : o.pl = true := List.all_eq_true.mp h (b, o) hm
theorem code_hid {H : Hp} {as : List Addr} (C : Cl H as) {c : Addr} {q : Str} (h : CodeN H c q) : CodeN (hid H as) c q := by
  obtain ⟨oc, vs, t, h1, h2, h3⟩ := h
  refine ⟨oc, vs, t, ?_, h2, h3⟩
  rw [hid_out (C.neD h1 fun v z => by rw [h2] at z; cases z)]
  exact h1
theorem Hg.hide {F : Fz} {H : Hp} {G : Gp} {as : List Addr} (g : Hg F H G) (C : Cl H as) : Hg F (hid H as) (hidG F (hid H as) G) := by
  obtain ⟨S, ow, hs, f⟩ := g.ex
  have e3 := ex_hid C g.fok
  refine ⟨fun a ha => ?_, fun b => hidS F (hid H as) (S b), ow, fun b o e => ?_, fun a x e => ?_⟩
  · obtain ⟨vs, h⟩ := g.fok a ha
    exact ⟨vs, by rw [e3.l a ha]; exact h⟩
  · have e : hidS F (hid H as) (S b) = some o := e
    cases q : S b with
    | none =>
      rw [q] at e
      cases e
    | some o0 =>
      rw [q] at e
      obtain ⟨nf, h, hb, sm⟩ := hs b o0 q
      cases o0 with
      | fn L ds => cases e
      | tab q0 g0 =>
        cases e
        obtain ⟨⟨ps, rfl, ht, hc⟩, _⟩ := sm
        refine ⟨nf, .tbl ps, by rw [hid_out (C.ne hb tbl_fz)]; exact hb, ⟨ps, rfl, ht, fun pos cv z => ?_⟩, fun p hp => ?_⟩
        · obtain ⟨c, h1, h2⟩ := hc pos cv z
          exact ⟨c, h1, code_hid C h2⟩
        · cases hp
          exact Ext.refl _ _
      | _ =>
        cases e
        exact ⟨nf, h, by rw [hid_out (C.ne hb fun z => sm.notFz rfl z)]; exact hb, sm.mono3 e3 rfl⟩
  · have e : hidO F (hid H as) (G a) = some x := e
    cases q : G a with
    | none =>
      rw [q] at e
      cases e
    | some x0 =>
      rw [q] at e
      obtain ⟨h1, h2⟩ := f a x0 q
      refine ⟨h1, ?_⟩
      cases x0 with
      | cmp L =>
        cases e
        obtain ⟨ps, l, ho, hp⟩ := h2
        refine ⟨ps, l, ho, fun b o hb => ?_⟩
        obtain ⟨h3, h4⟩ := hp b o hb
        exact ⟨by show hidS F (hid H as) (S b) = some o; rw [h3]; exact hidS_pl (all_pl ho.2 hb), h4⟩
      | sm o =>
        have h2 : S a = some o := h2
        cases o with
        | fn L ds => cases e
        | tab q0 g0 =>
          cases e
          show hidS F (hid H as) (S a) = _
          rw [h2]
          rfl
        | _ =>
          cases e
          show hidS F (hid H as) (S a) = _
          rw [h2]
          rfl
theorem ext_unh0 {F' : Fz} {H H' : Hp} {as : List Addr} (fok : Fok F' H') (hn : ∀ c ∈ as, H' c = none) : Ext F' H' F' (unh H as H') := by
  have key : ∀ b o, H' b = some o → unh H as H' b = some o := fun b o e => by
    rw [unh_out fun hb => by rw [hn b hb] at e; cases e]
    exact e
  exact ⟨fun _ h => h, fun a ha => by
    obtain ⟨vs, h⟩ := fok a ha
    rw [h, key a _ h], fun a xs h => key a _ h, fun a o h => key a _ h⟩
theorem ext_unh {F F' : Fz} {H H' : Hp} {as : List Addr} (C : Cl H as) (fok : Fok F H) (fok' : Fok F' H') (e : Ext F (hid H as) F' H') (hn : ∀ c ∈ as, H' c = none) : Ext F H F' (unh H as H') := by
  have e3 := ex_hid C fok
  have key : ∀ b o, H' b = some o → unh H as H' b = some o := fun b o e => by
    rw [unh_out fun hb => by rw [hn b hb] at e; cases e]
    exact e
  refine ⟨e.f, fun a ha => ?_, fun a xs h => key a _ (e.t a xs (e3.t a xs h)), fun a o h => ?_⟩
  · obtain ⟨vs, h⟩ := fok a ha
    rw [h]
    refine key a _ ?_
    rw [e.l a ha, e3.l a ha]
    exact h
  · by_cases ha : a ∈ as
    · rw [unh_in ha]
      exact h
    · exact key a _ (e.z a o (by rw [hid_out ha]; exact h))
/-- shown again -/
theorem Hg.show {F F' : Fz} {H H' : Hp} {G G1 G2 : Gp} {as : List Addr} (g : Hg F H G) (C : Cl H as) (g' : Hg F' H' G1) (e : Ext F (hid H as) F' H') (hn : ∀ c ∈ as, H' c = none)
    (k : ∀ b x, G2 b = some x → (G1 b = some x ∧ ∀ o, x = .sm o → o.pl = true) ∨ (∃ o, G b = some (.sm o) ∧ x = .sm o ∧ o.isFn = true) ∨ (∃ q g0 z, G b = some (.sm (.tab q g0)) ∧ x = .sm (.tab q g0) ∧ G1 b = some (.sm (.tab q z)))) : Hg F' (unh H as H') G2 := by
  have e2 : Ext F' H' F' (unh H as H') := ext_unh0 g'.fok hn
  have e3 : Ext F H F' (unh H as H') := ext_unh C g.fok g'.fok e hn
  obtain ⟨S, ow, hs, f⟩ := g.ex
  obtain ⟨S', ow', hs', f'⟩ := g'.ex
  have key : ∀ b o, H' b = some o → unh H as H' b = some o := fun b o e => by
    rw [unh_out fun hb => by rw [hn b hb] at e; cases e]
    exact e
  let A1 : Addr → Prop := fun b => ∃ o, G b = some (.sm o) ∧ o.isFn = true
  let A2 : Addr → Prop := fun b => ∃ q g0 z, G b = some (.sm (.tab q g0)) ∧ S' b = some (.tab q z)
  -- a function stands as it stood
  have fnAt : ∀ b, A1 b → ∃ o h z, S b = some o ∧ Sm F H o h ∧ h = FzO z ∧ H' b = some h := by
    rintro b ⟨o, hb, ho⟩
    have hS : S b = some o := (f b _ hb).2
    obtain ⟨nf, h, hh, sm⟩ := hs b o hS
    cases o with
    | fn L ds =>
      obtain ⟨h0, pm, ctv, c, h1, _⟩ := id sm
      refine ⟨_, h, _, hS, sm, h1, ?_⟩
      subst h1
      refine e.z b _ ?_
      rw [hid_out (C.neD hh fun v z => by cases z)]
      exact hh
    | _ => cases ho
  have noA : ∀ b o, S' b = some o → o.pl = true → ¬ (A1 b ∨ A2 b) := by
    rintro b o hS ho (ha | ⟨q, g0, z, _, h2⟩)
    · obtain ⟨o1, h, z, _, _, hz, hh⟩ := fnAt b ha
      obtain ⟨_, h', hh', sm'⟩ := hs' b o hS
      rw [hh] at hh'
      cases hh'
      exact sm'.notFz (SO.pl_fn ho) z hz
    · rw [hS] at h2
      cases h2
      cases ho
  refine ⟨fun a ha => ?_, fun b => @ite _ (A1 b ∨ A2 b) (Classical.propDecidable _) (S b) (S' b), fun b => @ite _ (A1 b ∨ A2 b) (Classical.propDecidable _) b (ow' b), fun b o hb => ?_, fun a x hx => ?_⟩
  · obtain ⟨vs, h⟩ := g'.fok a ha
    exact ⟨vs, key a _ h⟩
  · by_cases hA : A1 b ∨ A2 b
    · have hb : S b = some o := by
        have z : (@ite _ (A1 b ∨ A2 b) (Classical.propDecidable _) (S b) (S' b)) = some o := hb
        rwa [if_pos hA] at z
      rcases hA with ha | ⟨q, g0, z, h1, h2⟩
      · obtain ⟨o1, h, z, hS, sm, hz, hh⟩ := fnAt b ha
        rw [hb] at hS
        cases hS
        refine ⟨fun hf => ?_, h, key b _ hh, sm.mono e3⟩
        obtain ⟨vs, hv⟩ := g'.fok b hf
        rw [hh, hz] at hv
        exact lst_fz z (Option.some.inj hv).symm
      · have hS : S b = some (.tab q g0) := (f b _ h1).2
        rw [hb] at hS
        cases hS
        obtain ⟨_, h, hh, sm⟩ := hs b _ hb
        obtain ⟨nf', h', hh', sm'⟩ := hs' b _ h2
        have s2 := sm'.mono e2
        exact ⟨nf', h', key b _ hh', s2.1, fun p hp => (sm.2 p hp).trans e3⟩
    · have hb : S' b = some o := by
        have z : (@ite _ (A1 b ∨ A2 b) (Classical.propDecidable _) (S b) (S' b)) = some o := hb
        rwa [if_neg hA] at z
      obtain ⟨nf', h', hh', sm'⟩ := hs' b _ hb
      exact ⟨nf', h', key b _ hh', sm'.mono e2⟩
  · rcases k a x hx with ⟨h1, hpl⟩ | ⟨o, h1, rfl, ho⟩ | ⟨q, g0, z, h1, rfl, h2⟩
    · obtain ⟨h3, h4⟩ := f' a x h1
      cases x with
      | sm o =>
        have h4 : S' a = some o := h4
        have nA := noA a o h4 (hpl o rfl)
        exact ⟨(if_neg nA).trans h3, (if_neg nA).trans h4⟩
      | cmp L =>
        obtain ⟨ps, l, ho, hp⟩ := h4
        obtain ⟨⟨oa, hoa⟩, hall⟩ := ho
        have nA := noA a oa (hp a oa hoa).1 (all_pl hall hoa)
        refine ⟨(if_neg nA).trans h3, ps, l, ⟨⟨oa, hoa⟩, hall⟩, fun b o hb => ?_⟩
        obtain ⟨h5, h6⟩ := hp b o hb
        have nB := noA b o h5 (all_pl hall hb)
        exact ⟨(if_neg nB).trans h5, (if_neg nB).trans h6⟩
    · have hA : A1 a ∨ A2 a := .inl ⟨o, h1, ho⟩
      exact ⟨if_pos hA, (if_pos hA).trans (f a _ h1).2⟩
    · have hA : A1 a ∨ A2 a := .inr ⟨q, g0, z, h1, (f' a _ h2).2⟩
      exact ⟨if_pos hA, (if_pos hA).trans (f a _ h1).2⟩
/-! ### a function's promise: it ends, or raises; nothing is changed -/
abbrev Out := Option (Addr × Option Int)
def OutK (G : Gp) (o : Out) (Q : DK) (E' : DXK) : Prop := (o = none → ∀ d, Q d G) ∧ (∀ C, o = some (C, none) → E' C none G) ∧ ∀ C n, o = some (C, some n) → ∀ d, G d = none → E' C (some d) (xdG G d "number" n)
structure LamOk (P : Program) (w : World) (K : PySem.W.Frag) (mg : Str → Option Value) (base : Heap) (k : Nat) (L : LamR) (lsp : List D → Gp → Out → Prop) : Prop where
  run : ∀ (A : Around) (outer : List Env) (s : Shared) (H : Hp) (f c : Addr) (pm ctv : Value) (F : Fz) (ds : List D) (vs : List V) (G : Gp) (Pt : Addr) (q : Str) (g : Option (Fz × Hp)) (Q : VK) (Q' : DK) (E : XK) (E' : DXK) (o : Out), Room k A → Env0 P w K mg base A outer s H →
    H f = some (FzO (L.o pm ctv c)) → CodeN H c L.q → (L.cl.map (·.2)).Nodup → IsL F H ds vs → CellsN H (L.cl.map (·.2)) vs → Hg F H G → G Pt = some (.sm (.tab q g)) → lsp ds G o → OutK G o Q' E' → Kc F H Q Q' → KE E E' →
    codeAny (model P w) A (.call (.ref f) ⟨[], []⟩) (CR (L2.CX P w) outer P w H s Q E) s
theorem LamOk.of {P : Program} {w : World} {K : PySem.W.Frag} {mg : Str → Option Value} {base : Heap} {k : Nat} {L : LamR} {lsp : List D → Gp → Out → Prop} (h : ∀ ds G o, lsp ds G o → LamOk P w K mg base k L lsp) : LamOk P w K mg base k L lsp :=
  ⟨fun A outer s H f c pm ctv F ds vs G Pt q g Q Q' E E' o a1 a2 a3 a4 a5 a6 a7 a8 a9 hs => (h ds G o hs).run A outer s H f c pm ctv F ds vs G Pt q g Q Q' E E' o a1 a2 a3 a4 a5 a6 a7 a8 a9 hs⟩
theorem sub_hid {F : Fz} {H0 : Hp} {G : Gp} {b : Addr} {x : GO} (h : G b = some x) : (hidG F H0 G b = some x ∧ ∀ o, x = .sm o → o.pl = true) ∨ (∃ o, G b = some (.sm o) ∧ x = .sm o ∧ o.isFn = true) ∨ (∃ q g0 z, G b = some (.sm (.tab q g0)) ∧ x = .sm (.tab q g0) ∧ hidG F H0 G b = some (.sm (.tab q z))) := by
  unfold hidG
  rw [h]
  cases x with
  | cmp L => exact .inl ⟨rfl, fun o z => by cases z⟩
  | sm o =>
    cases o with
    | fn L ds => exact .inr (.inl ⟨_, rfl, rfl, rfl⟩)
    | tab q g => exact .inr (.inr ⟨q, g, _, rfl, rfl, rfl⟩)
    | _ => exact .inl ⟨rfl, fun o z => by cases z; rfl⟩
theorem isS_of {F : Fz} {H : Hp} {ds : List D} {vs : List V} (h : IsL F H ds vs) : IsS F H (ds.map some) (vs.map some) := by
  refine ⟨by rw [List.length_map, List.length_map, h.length], fun i d e => ?_⟩
  rw [List.getElem?_map] at e
  cases q : ds[i]? with
  | none =>
    rw [q] at e
    cases e
  | some x =>
    rw [q] at e
    cases e
    obtain ⟨v, h1, h2⟩ := h.get q
    exact ⟨v, by rw [List.getElem?_map, h1]; rfl, h2⟩
theorem lam_ok {P : Program} {w : World} {K : PySem.W.Frag} {mg : Str → Option Value} {base : Heap} {k : Nat} {N : List Str} {L : LamR} {lsp : List D → Gp → Out → Prop} {t : DXK → DE}
    (S : NdefX.NScope N [] N L.scope) (hN : L.cl.map (·.1) = N) (hb : ∀ pm c ctv, bindArgs (PySem.W.kla_fn "<lambda>" L.q L.params L.body L.scope L.cl pm (.ref c) ctv) ⟨[], []⟩ = pure [])
    (hbody : ∀ (A : Around) (outer : List Env) (s : Shared) (H : Hp) (f c : Addr) (E : XK) (E' : DXK), Room k (A.deeper (NdefX.envF (L.nf c) f s.heap.objs.size)) → TK (NdefX.ncx (L2.CX P w) P w K mg base N (L.nf c) f A outer s H E) E' → QE (NdefX.ncx (L2.CX P w) P w K mg base N (L.nf c) f A outer s H E) L.body (t E'))
    (hr : ∀ ds G o Q E', lsp ds G o → OutK G o Q E' → t (vX E') (ds.map some) G (vR Q)) (hl : ∀ ds G o F H0, lsp ds G o → lsp ds (hidG F H0 G) o) : LamOk P w K mg base (k + 1) L lsp := by
  refine ⟨fun A outer s H f c pm ctv F ds vs G Pt q g Q Q' E E' o hroom e0 hf hc hn2 il C hg hP hsp ho kc ke => ?_⟩
  have CL := C.cl
  have hP' : hidG F (hid H (L.cl.map (·.2))) G Pt = some (.sm (.tab q (some (F, hid H (L.cl.map (·.2)))))) := by
    unfold hidG
    rw [hP]
    rfl
  have ghid := hg.hide CL
  let Q1 : DK := fun _ G' => o = none ∧ G' = hidG F (hid H (L.cl.map (·.2))) G
  let E1 : DXK := fun C d G' => (o = some (C, none) ∧ d = none ∧ G' = hidG F (hid H (L.cl.map (·.2))) G) ∨ ∃ n d0, o = some (C, some n) ∧ d = some d0 ∧ hidG F (hid H (L.cl.map (·.2))) G d0 = none ∧ G' = xdG (hidG F (hid H (L.cl.map (·.2))) G) d0 "number" n
  have ok1 : OutK (hidG F (hid H (L.cl.map (·.2))) G) o Q1 E1 := ⟨fun h d => ⟨h, rfl⟩, fun C h => .inl ⟨h, rfl, rfl⟩, fun C n h d hd => .inr ⟨n, d, h, rfl, hd, rfl⟩⟩
  have kc1 : Kc F (hid H (L.cl.map (·.2))) (fun v H' => (∀ c ∈ L.cl.map (·.2), H' c = none) → Q v (unh H (L.cl.map (·.2)) H')) Q1 := by
    rintro v H' F' d G' e g' i ⟨h1, rfl⟩ hn
    refine kc v _ F' d G (ext_unh CL hg.fok g'.fok e hn) (hg.show CL g' e hn fun b x hx => sub_hid hx) (i.mono (ext_unh0 g'.fok hn)) (ho.1 h1 d)
  have ke1 : KE (fun cls d H' => (∀ c ∈ L.cl.map (·.2), H' c = none) → E cls d (unh H (L.cl.map (·.2)) H')) E1 := by
    rintro F' H' G' C0 d g' (⟨h1, rfl, rfl⟩ | ⟨n, d0, h1, rfl, hd, rfl⟩) hn
    · obtain ⟨z, hz, sm⟩ := g'.get hP'
      have e : Ext F (hid H (L.cl.map (·.2))) F' H' := sm.2 _ rfl
      exact ke F' _ G C0 none (hg.show CL g' e hn fun b x hx => sub_hid hx) (ho.2.1 C0 h1)
    · have ne : Pt ≠ d0 := fun z => by
        rw [← z, hP'] at hd
        cases hd
      obtain ⟨z, hz, sm⟩ := g'.get ((ud_ne ne).trans hP')
      have e : Ext F (hid H (L.cl.map (·.2))) F' H' := sm.2 _ rfl
      have hd0 : G d0 = none := by
        cases q0 : G d0 with
        | none => rfl
        | some x =>
          rcases sub_hid (F := F) (H0 := hid H (L.cl.map (·.2))) q0 with ⟨h2, _⟩ | ⟨o2, h2, h3, h4⟩ | ⟨_, _, _, _, _, h2⟩
          · rw [hd] at h2
            cases h2
          · subst h3
            obtain ⟨z2, hz2, sm2⟩ := hg.get q0
            cases o2 with
            | fn L2 ds2 =>
              obtain ⟨_, pm2, ctv2, c2, e2, _⟩ := sm2
              subst e2
              have h5 := e.z d0 _ (by rw [hid_out (CL.neD hz2 fun v z => by cases z)]; exact hz2)
              obtain ⟨z3, hz3, sm3⟩ := g'.get ud_same
              rw [h5] at hz3
              cases hz3
              exact absurd sm3.1 (fun z => by unfold FzO at z; cases z)
            | _ => cases h4
          · rw [hd] at h2
            cases h2
      refine ke F' _ _ C0 (some d0) (hg.show CL g' e hn fun b x hx => ?_) (ho.2.2 C0 n h1 d0 hd0)
      unfold xdG at hx ⊢
      by_cases hb0 : b = d0
      · subst hb0
        rw [ud_same] at hx
        cases hx
        exact .inl ⟨ud_same, fun o z => by cases z; rfl⟩
      · rw [ud_ne hb0] at hx
        rcases sub_hid (F := F) (H0 := hid H (L.cl.map (·.2))) hx with ⟨h2, h3⟩ | h2 | ⟨q2, g2, z2, h2, h3, h4⟩
        · exact .inl ⟨(ud_ne hb0).trans h2, h3⟩
        · exact .inr (.inl h2)
        · exact .inr (.inr ⟨q2, g2, z2, h2, h3, (ud_ne hb0).trans h4⟩)
  refine lam_run S hN hn2 (hb pm c ctv) hroom e0 hf hc C (fun hroom' => hbody A outer s _ f c _ (vX E1) hroom' ⟨_, takes_of rfl rfl rfl rfl, ke1.vX⟩) ?_
  exact ⟨F, ds.map some, _, vR Q1, isS_of (il.mono3 (ex_hid CL hg.fok)), ghid, hr ds _ o Q1 E1 (hl ds G o F _ hsp) ok1, kc1.vR⟩
/-! ### x(), x a name that holds such a function -/
def dAct (i : Nat) (LS : LamR → List D → Gp → Out → Prop) (E' : DXK) : DE := fun s G Q => ∃ f L ds Pt q g o, s[i]? = some (some (.ref f)) ∧ G f = some (.sm (.fn L (some ds))) ∧ G Pt = some (.sm (.tab q g)) ∧ LS L ds G o ∧ OutK G o Q E'
theorem qe_act {X : Cx} {LS : LamR → List D → Gp → Out → Prop} {E' : DXK} {k j i : Nat} {a : Str} {p1 p2 : Pos} (hL : ∀ L, LamOk X.prog X.w X.K X.mg X.base k L (LS L)) (hr : Room j X.A) (hj : k ≤ j) (tk : TK X E') (hN : X.N[i]? = some a) (hv : Vis X.env.scope a)
    (hd : (a == ("__debug__" : Str)) = false := by decide) (hcd : (a == ("__classdict__" : Str)) = false := by decide) : QE X (.Call (.Name a p1) [] [] p2) (dAct i LS E') := by
  refine ⟨fun pins s σ H Q I h => ?_⟩
  obtain ⟨F, d, G, Q', hs, hg, ⟨f, L, ds, Pt, q, g, o, hi, hf, hP, hls, hok⟩, kc⟩ := h
  obtain ⟨E, tk, ke⟩ := tk.ex
  obtain ⟨v, hv1, iv⟩ := hs.2 i _ hi
  rw [is_ref.mp iv] at hv1
  refine wpAny_Call_Name_kw (thn ((pe_var (pos := p1) (i := i) hN hv hd hcd).run pins s σ H (fun v H1 => v = .ref f ∧ H1 = H) I ⟨.ref f, hv1, rfl, rfl⟩) fun u s1 ⟨v, H1, I1, r1, q1⟩ => ?_)
  obtain ⟨ev, eH⟩ := q1
  subst ev
  rw [eH] at I1
  cases (show u = Value.ref f from r1)
  obtain ⟨z, hz, nd, pm, ctv, c, rfl, hc, hcells⟩ := hg.get hf
  obtain ⟨vs, il, C⟩ := hcells ds rfl
  refine PySem.W.callWith_F0 ⟨_, _, _, _, fzO_at I1.hok hz⟩ ?_
  refine wpAny_call (codeAny_mono ((hL L).run X.A X.stack s1 H f c pm ctv F ds vs G Pt q g Q Q' E E' o (hr.mono hj) I1.env0 hz hc nd il C hg hP hls hok kc ke) fun r s' hq => ?_)
  cases r with
  | error e => exact passes_call (E := E) tk (fun _ _ _ _ h => h) pins σ H s1 e s' I1 hq
  | ok fl =>
    cases fl with
    | ret u => exact I1.after hq
    | next => exact False.elim hq
    | brk => exact False.elim hq
    | cont => exact False.elim hq
end Dg

/-! try .. except X as e; what is asked of e. -/
namespace Dg
open PySem PySem.Spec L2
open PyProof.Rows (envOfC)
/-- a thing is seen otherwise -/
theorem Hg.re {F : Fz} {H : Hp} {G : Gp} (g : Hg F H G) {a : Addr} {o o' : SO} (h : G a = some (.sm o)) (nn : o.isFn = false) (s : ∀ z, Sm F H o z → Sm F H o' z) : Hg F H (ud G a (.sm o')) := by
  obtain ⟨z, hz, sz⟩ := g.get h
  have e : upd H a z = H := by
    funext b
    by_cases hb : b = a
    · rw [hb, upd_same, hz]
    · rw [upd_ne hb]
  have r := g.set (o' := o') (z := z) h (by rw [e]; exact s z sz) nn
  rw [e] at r
  exact r
theorem tab_mark {F : Fz} {H : Hp} {G : Gp} (g : Hg F H G) {P : Addr} {q : Str} {og : Option (Fz × Hp)} (h : G P = some (.sm (.tab q og))) : Hg F H (ud G P (.sm (.tab q (some (F, H))))) :=
  g.re h rfl fun z s => ⟨s.1, fun p hp => by cases hp; exact Ext.refl F H⟩
theorem tab_back {F F0 : Fz} {H H0 : Hp} {G G0 : Gp} (g0 : Hg F0 H0 G0) (g : Hg F H G) {P : Addr} {q : Str} {og : Option (Fz × Hp)} (h0 : G0 P = some (.sm (.tab q og))) (h : G P = some (.sm (.tab q (some (F0, H0))))) : Ext F0 H0 F H ∧ Hg F H (ud G P (.sm (.tab q og))) := by
  obtain ⟨z, hz, sz⟩ := g.get h
  have e : Ext F0 H0 F H := sz.2 _ rfl
  refine ⟨e, g.re h rfl fun z s => ⟨s.1, fun p hp => ?_⟩⟩
  obtain ⟨z0, hz0, sz0⟩ := g0.get h0
  exact (sz0.2 p hp).trans e
/-- of any slots -/
theorem takes_any {X : Cx} {W : WX} (t : Takes X W) : Takes X (fun cls d _ H => ∀ σ : St, σ.length = X.N.length → W cls d σ H) := by
  rintro u s' ⟨a, B, sI, pins, σ, H, cls, d, e, I, nb, up, sky, na, os, ag, w⟩
  exact t u s' ⟨a, B, sI, pins, σ, H, cls, d, e, I, nb, up, sky, na, os, ag, w σ I.len⟩
/-- slot i holds the exception, n slots; ok: the classes that are caught -/
def dTry (n i : Nat) (ok : Addr → Prop) (tb : DXK → DS) (ts : Addr → Addr → Option Addr → DS) : DS := fun D s G => ∃ Pt q g, G Pt = some (.sm (.tab q g)) ∧ ∀ og : Fz × Hp,
  tb (fun C d G' => G' Pt = some (.sm (.tab q (some og))) ∧ ok C ∧ ∀ a, ts a C d { nx := fun _ _ => False, rt := D.rt } ((List.replicate n none).set i (some (.ref a))) (ud G' Pt (.sm (.tab q g))))
    { nx := fun s' G' => G' Pt = some (.sm (.tab q (some og))) ∧ D.nx s' (ud G' Pt (.sm (.tab q g))), rt := fun _ _ => False } s (ud G Pt (.sm (.tab q (some og))))
theorem isS_none {F : Fz} {H : Hp} {σ : St} {n : Nat} (h : σ.length = n) : IsS F H (List.replicate n none) σ := by
  refine ⟨by rw [List.length_replicate, h], fun i d e => ?_⟩
  rw [List.getElem?_replicate] at e
  split at e <;> cases e
section
variable {X : Cx}
theorem qs_try {x n : Str} {c : Value} {i m : Nat} {body suite : List Stmt} {b₀ : Stmt} {np pos pos' : Pos} {tb : DXK → DS} {ts : Addr → Addr → Option Addr → DS} {ok : Addr → Prop}
    (hs : X.stack = X.env :: X.outer) (hf : X.env.frame = some X.env.locals) (hN : X.N.Nodup) (hi : X.N[i]? = some n) (hln : X.env.kindOf n = some .local) (hc : Names X x c) (hm : X.N.length = m) (hok : ∀ C, ok C → PySem.W.exmOne X.K (.ref C) c = some true)
    (hb : ∀ (pn : List (Addr × Obj)) (xe : Value → Shared → Prop) (E' : DXK), TK (X.tr pn xe) E' → QSs (X.tr pn xe) body (tb E'))
    (hsu : ∀ (a : Addr) (oe : Obj) (C : Addr) (d : Option Addr) (pn : List (Addr × Obj)), Zc (.ref C) d oe → (∃ vs, oe.data = .fields vs) → QSs (X.suite a ((a, oe) :: pn)) (b₀ :: suite) (ts a C d)) :
    QS X (.Try body [.ExceptHandler (some (.Name x np)) (some n) (b₀ :: suite) pos'] [] [] pos) (dTry m i ok tb ts) := by
  refine PS.weak (ps_try_as (Wout := fun _ _ _ _ => False) (tb := fun W D σ H => ∃ E', KE (fun cls d H => ∀ σ : St, σ.length = X.N.length → W cls d σ H) E' ∧ lS (tb E') D σ H) (ts := fun a cls d D σ H => ∃ C, cls = .ref C ∧ lS (ts a C d) D σ H) hs hf hN hi hln hc ?_ ?_ ?_) ?_
  · rintro u s' ⟨_, _, _, _, _, _, _, _, _, _, _, _, _, _, _, _, w⟩
    exact w.elim
  · intro W pn xe tk _
    refine ⟨fun pins s σ H D I ⟨E', ke, h⟩ => ?_⟩
    exact (hb pn xe E' ⟨_, takes_any tk, ke⟩).run pins s σ H D I h
  · intro a oe cls d pn hz hfl
    refine ⟨fun pins s σ H D I ⟨C, e, h⟩ => ?_⟩
    subst e
    exact (hsu a oe C d pn hz hfl).run pins s σ H D I h
  · intro D σ H h
    obtain ⟨F0, s0, G0, D', hs0, hg0, ⟨Pt, q, g, hP, h⟩, k⟩ := h
    refine ⟨_, ?_, F0, s0, _, _, hs0, tab_mark hg0 hP, h (F0, H), ?_⟩
    · rintro F H1 G1 C d g1 ⟨h1, h2, h3⟩ σ1 hl1
      obtain ⟨ex, g2⟩ := tab_back hg0 g1 hP h1
      refine ⟨true, hok C h2, fun _ a ha => ⟨C, rfl, F, _, _, _, ?_, g2, h3 a, ?_⟩, fun z => by cases z⟩
      · exact (isS_none (hl1.trans hm)).set i (is_ref.mpr rfl)
      · exact ⟨fun _ _ _ _ _ _ _ _ z => z.elim, k.rt.step ex, fun _ _ _ _ _ _ _ _ z => z.elim, fun _ _ _ _ _ _ _ _ z => z.elim⟩
    · refine ⟨?_, fun _ _ _ _ _ _ _ _ z => z.elim, fun _ _ _ _ _ _ _ _ z => z.elim, fun _ _ _ _ _ _ _ _ z => z.elim⟩
      rintro σ1 H1 F1 s1 G1 ex i1 g1 ⟨h1, h2⟩
      obtain ⟨ex, g2⟩ := tab_back hg0 g1 hP h1
      exact k.nx σ1 H1 F1 s1 _ ex i1 g2 h2
/-! ### isinstance(e, ..) -/
def XdH (H : Hp) (d : Option Addr) : Prop := ∀ dd, d = some dd → ∃ fs, H dd = some (.xd fs)
def XdG (G : Gp) (d : Option Addr) : Prop := ∀ dd, d = some dd → ∃ fs, G dd = some (.sm (.raw (.xd fs)))
theorem XdG.h {F : Fz} {H : Hp} {G : Gp} {d : Option Addr} (g : Hg F H G) (h : XdG G d) : XdH H d := fun dd e => by
  obtain ⟨fs, hd⟩ := h dd e
  obtain ⟨z, hz, sm⟩ := g.get hd
  rw [sm.1] at hz
  exact ⟨fs, hz⟩
theorem inst_exc {a C : Addr} {oe : Obj} {d : Option Addr} {pn pins : List (Addr × Obj)} {σ : St} {H : Hp} {s : Shared} (I : Inv (X.suite a ((a, oe) :: pn)) pins σ H s) (hz : Zc (.ref C) d oe) (hf : ∃ vs, oe.data = .fields vs) (hd : XdH H d) : ∃ od, PySem.W.InstAt s.heap a oe C od := by
  obtain ⟨hget, _⟩ := I.pin (a, oe) (List.mem_append.mpr (.inl List.mem_cons_self))
  obtain ⟨vs, hv⟩ := hf
  obtain ⟨oc, od, oda, osl⟩ := oe
  obtain ⟨h1, h2⟩ := hz
  dsimp only at h1 h2 hv
  subst h1 h2 hv
  cases od with
  | none => exact ⟨none, hget, rfl, rfl, trivial⟩
  | some dd =>
    obtain ⟨fs, hx⟩ := hd dd rfl
    have ok : ObjOk X.prog X.w H s.heap dd (.xd fs) := I.hok dd _ hx
    obtain ⟨mA, ⟨o, es, ep, ho, _⟩, _⟩ := ok
    exact ⟨some o, hget, rfl, rfl, ho⟩
theorem kitx_of_exc {K : PySem.W.Frag} {x C : Addr} {ox : Obj} {od : Option Obj} (T : ExcC K C) : PySem.W.KitX K (.ref x) (.ref C) (fun h => PySem.W.InstAt h x ox C od) := by
  obtain ⟨cd, hc, _⟩ := PySem.W.any_some T.hd
  exact PySem.W.kitx_exc (by rw [hc]; rfl) T.hg T.hk T.hs T.ha T.hn T.ht T.hm
def rIsX (K : PySem.W.Frag) (C a : Addr) (d : Option Addr) : List V → Hp → VK → Prop := fun xs H Q => ∃ (c : V) (cv : Value) (b : Bool), xs = [.ref a, c] ∧ (∀ u, RelV c u → u = cv) ∧ ExcC K C ∧ XdH H d ∧ PySem.W.kitOne K (.ref C) cv = some b ∧ Q (.bl b) H
theorem call_isX {a C : Addr} {oe : Obj} {d : Option Addr} {pn : List (Addr × Obj)} (hz : Zc (.ref C) d oe) (hf : ∃ vs, oe.data = .fields vs) : CallR (X.suite a ((a, oe) :: pn)) (.builtin "isinstance") (rIsX X.K C a d) := by
  intro pins s σ H xs us Q I r h
  obtain ⟨c, cv, b, rfl, hcv, T, hd, e, q⟩ := h
  cases r with
  | cons rx rr =>
    cases rr with
    | cons rt rr =>
      cases rr
      cases rx
      have ec := hcv _ rt
      subst ec
      obtain ⟨od, J⟩ := inst_exc I hz hf hd
      exact PySem.W.kia_one (kitx_of_exc T) I.kIn J e (fun z => nomatch z) fun tk => ⟨.bl b, H, I.kept (t' := tk) fun _ _ z => z, rfl, q⟩
/-- (C1, C2, ..) of own classes -/
def rIsXT (K : PySem.W.Frag) (C a : Addr) (d : Option Addr) : List V → Hp → VK → Prop := fun xs H Q => ∃ (tp : Addr) (cs : List Addr) (b : Bool), xs = [.ref a, .ref tp] ∧ H tp = some (.tup (cs.map V.ref)) ∧ ExcC K C ∧ XdH H d ∧ PySem.W.kitAny K (.ref C) (cs.map Value.ref) = some b ∧ Q (.bl b) H
theorem vals_refs : ∀ {cs : List Addr} {us : List Value}, Vals (cs.map V.ref) us → us = cs.map Value.ref
  | [], _, .nil => rfl
  | c :: cs, _, .cons r t => by
    have e := vals_refs t
    subst e
    cases r
    rfl
theorem call_isXT {a C : Addr} {oe : Obj} {d : Option Addr} {pn : List (Addr × Obj)} (hz : Zc (.ref C) d oe) (hf : ∃ vs, oe.data = .fields vs) : CallR (X.suite a ((a, oe) :: pn)) (.builtin "isinstance") (rIsXT X.K C a d) := by
  intro pins s σ H xs us Q I r h
  obtain ⟨tp, cs, b, rfl, hT, T, hd, e, q⟩ := h
  cases r with
  | cons rx rr =>
    cases rr with
    | cons rt rr =>
      cases rr
      cases rx
      cases rt
      obtain ⟨od, J⟩ := inst_exc I hz hf hd
      obtain ⟨_, its, rv, o, h1, h2, n, h3⟩ := (show ObjOk X.prog X.w H s.heap tp (.tup (cs.map V.ref)) from I.hok tp _ hT)
      have e3 := vals_refs rv
      subst e3
      obtain ⟨oc, od2, dt, sl⟩ := o
      simp only at h2 h3
      subst h2 h3
      exact PySem.W.kia_tup (kitx_of_exc T) I.kIn J h1 e (fun z => nomatch z) fun tk => ⟨.bl b, H, I.kept (t' := tk) fun _ _ z => z, rfl, q⟩
def dIsX (K : PySem.W.Frag) (C a : Addr) (d : Option Addr) (kit : Option Bool) (te : DE) : DE := fun s G Q => te s G fun x G1 => x = .ref a ∧ ExcC K C ∧ XdG G1 d ∧ ∃ b, kit = some b ∧ Q (.bl b) G1
/-- isinstance(e, C2), C2 an own class -/
theorem qe_isX {a C C2 : Addr} {oe : Obj} {d : Option Addr} {pn : List (Addr × Obj)} {e : Expr} {n : Str} {p p2 pos : Pos} {te : DE} (hz : Zc (.ref C) d oe) (hf : ∃ vs, oe.data = .fields vs) (hg : Gl X "isinstance") (hm : X.mg "isinstance" = none) (he : QE (X.suite a ((a, oe) :: pn)) e te) (hg2 : Gl X n) (hm2 : X.mg n = some (.ref C2))
    (hd : (n == ("__debug__" : Str)) = false := by decide)
    (hs : starEach [e, .Name n p2] X.env = (false, eval e X.env) :: starEach [.Name n p2] X.env := by rfl) (hs2 : starEach [.Name n p2] X.env = (false, eval (.Name n p2) X.env) :: starEach [] X.env := by rfl) (hpl : (backTo pos (starEach [.Name n p2] X.env)).any (·.1) = false := by rfl) :
    QE (X.suite a ((a, oe) :: pn)) (.Call (.Name "isinstance" p) [e, .Name n p2] [] pos) (dIsX X.K C a d (PySem.W.kitOne X.K (.ref C) (.ref C2)) te) := by
  have hg' : Gl (X.suite a ((a, oe) :: pn)) "isinstance" := hg
  have hg2' : Gl (X.suite a ((a, oe) :: pn)) n := hg2
  refine PE.weak (pe_callB (call_isX hz hf) hg' hm (by decide +kernel) (pa_cons he (pa_cons (pe_glob (v := .ref C2) hg2' hm2 rfl hd) pa_nil hs2) hs) (by decide) (by decide) hs hpl) fun σ H Q h => ?_
  obtain ⟨F, s, G, Q', hs, hg, h, k⟩ := h
  refine lE_b hs hg h fun v H1 F1 x G1 e1 s1 g1 i1 ⟨ex, T, hd, b, hb, q⟩ => ?_
  subst ex
  rw [is_ref.mp i1]
  exact ⟨.ref C2, .ref C2, b, rfl, fun u z => z, T, hd.h g1, hb, k _ H1 F1 _ G1 e1 g1 (is_bl.mpr rfl) q⟩
/-- isinstance(e, T), T a built-in type -/
theorem qe_isXB {a C : Addr} {oe : Obj} {d : Option Addr} {pn : List (Addr × Obj)} {e : Expr} {n : Str} {T : String} {p p2 pos : Pos} {te : DE} (hz : Zc (.ref C) d oe) (hf : ∃ vs, oe.data = .fields vs) (hg : Gl X "isinstance") (hm : X.mg "isinstance" = none) (he : QE (X.suite a ((a, oe) :: pn)) e te) (hg2 : Gl X n) (hm2 : X.mg n = none) (hv : bootBuiltins n = some (.type T))
    (hn : n ≠ "__name__" := by decide) (hd : (n == ("__debug__" : Str)) = false := by decide)
    (hs : starEach [e, .Name n p2] X.env = (false, eval e X.env) :: starEach [.Name n p2] X.env := by rfl) (hs2 : starEach [.Name n p2] X.env = (false, eval (.Name n p2) X.env) :: starEach [] X.env := by rfl) (hpl : (backTo pos (starEach [.Name n p2] X.env)).any (·.1) = false := by rfl) :
    QE (X.suite a ((a, oe) :: pn)) (.Call (.Name "isinstance" p) [e, .Name n p2] [] pos) (dIsX X.K C a d (PySem.W.kitOne X.K (.ref C) (.type T)) te) := by
  have hg' : Gl (X.suite a ((a, oe) :: pn)) "isinstance" := hg
  have hg2' : Gl (X.suite a ((a, oe) :: pn)) n := hg2
  refine PE.weak (pe_callB (call_isX hz hf) hg' hm (by decide +kernel) (pa_cons he (pa_cons (pe_bltn (v := .ty T) hg2' hm2 hv rfl hn hd) pa_nil hs2) hs) (by decide) (by decide) hs hpl) fun σ H Q h => ?_
  obtain ⟨F, s, G, Q', hs, hg, h, k⟩ := h
  refine lE_b hs hg h fun v H1 F1 x G1 e1 s1 g1 i1 ⟨ex, T1, hd, b, hb, q⟩ => ?_
  subst ex
  rw [is_ref.mp i1]
  exact ⟨.ty T, .type T, b, rfl, fun u z => z, T1, hd.h g1, hb, k _ H1 F1 _ G1 e1 g1 (is_bl.mpr rfl) q⟩
/-- isinstance(e, (C1, ..)), own classes by names -/
theorem qe_isXT {a C : Addr} {oe : Obj} {d : Option Addr} {pn : List (Addr × Obj)} {e : Expr} {ns : List Expr} {cs : List Addr} {kk} {p pt pos : Pos} {te : DE} (hz : Zc (.ref C) d oe) (hf : ∃ vs, oe.data = .fields vs) (hg : Gl X "isinstance") (hm : X.mg "isinstance" = none) (he : QE (X.suite a ((a, oe) :: pn)) e te)
    (ht : PA (X.suite a ((a, oe) :: pn)) ns (fun _ H Q => Q (cs.map V.ref) H)) (hl : cs.length ≤ 1000)
    (hs : starEach [e, .Tuple ns kk pt] X.env = (false, eval e X.env) :: starEach [.Tuple ns kk pt] X.env := by rfl) (hs2 : starEach [.Tuple ns kk pt] X.env = (false, eval (.Tuple ns kk pt) X.env) :: starEach [] X.env := by rfl) (hpl : (backTo pos (starEach [.Tuple ns kk pt] X.env)).any (·.1) = false := by rfl) :
    QE (X.suite a ((a, oe) :: pn)) (.Call (.Name "isinstance" p) [e, .Tuple ns kk pt] [] pos) (dIsX X.K C a d (PySem.W.kitAny X.K (.ref C) (cs.map Value.ref)) te) := by
  have hg' : Gl (X.suite a ((a, oe) :: pn)) "isinstance" := hg
  refine PE.weak (pe_callB (call_isXT hz hf) hg' hm (by decide +kernel) (pa_cons he (pa_cons (pe_tup ht) pa_nil hs2) hs) (by decide) (by decide) hs hpl) fun σ H Q h => ?_
  obtain ⟨F, s, G, Q', hs, hg, h, k⟩ := h
  refine lE_b hs hg h fun v H1 F1 x G1 e1 s1 g1 i1 ⟨ex, T1, hd, b, hb, q⟩ => ?_
  subst ex
  rw [is_ref.mp i1]
  refine ⟨by rw [List.length_map, sizeLine_eq]; omega, fun tp htp => ?_⟩
  have ex : Ext F1 H1 F1 (upd H1 tp (.tup (cs.map V.ref))) := ext_new g1.fok htp
  have g2 : Hg F1 (upd H1 tp (.tup (cs.map V.ref))) G1 := g1.newT htp
  exact ⟨tp, cs, b, rfl, upd_same, T1, hd.h g2, hb, k _ _ F1 _ G1 (e1.trans ex) g2 (is_bl.mpr rfl) q⟩
theorem pa_glob1 {n : Str} {p : Pos} {C : Addr} {es : List Expr} {cs : List Addr} (hg : Gl X n) (hm : X.mg n = some (.ref C)) (hr : PA X es (fun _ H Q => Q (cs.map V.ref) H)) (hd : (n == ("__debug__" : Str)) = false := by decide) (hs : starEach (.Name n p :: es) X.env = (false, eval (.Name n p) X.env) :: starEach es X.env := by rfl) :
    PA X (.Name n p :: es) (fun _ H Q => Q ((C :: cs).map V.ref) H) := PA.weak (pa_cons (pe_glob (v := .ref C) hg hm rfl hd) hr hs) fun σ H Q h => h
theorem pa_glob0 : PA X [] (fun _ H Q => Q (([] : List Addr).map V.ref) H) := PA.weak pa_nil fun σ H Q h => h
/-! ### e.f -/
def dXf (a C : Addr) (d : Option Addr) (C0 : Addr) (f : Str) (te : DE) : DE := fun s G Q => te s G fun x G1 => x = .ref a ∧ C = C0 ∧ ∃ dd fs n, d = some dd ∧ G1 dd = some (.sm (.raw (.xd fs))) ∧ fs.lookup f = some (.int n) ∧ Q (.int n) G1
theorem qe_xf {a C C0 : Addr} {oe : Obj} {d : Option Addr} {pn : List (Addr × Obj)} {e : Expr} {f : Str} {pos : Pos} {te : DE} (T : XfC X.K C0) (hno : PySem.W.findIn X.K (.ref C0) f = some none) (hz : Zc (.ref C) d oe) (hf : ∃ vs, oe.data = .fields vs) (he : QE (X.suite a ((a, oe) :: pn)) e te)
    (hb : attributeBase e f X.env (eval e X.env) = eval e X.env := by rfl) : QE (X.suite a ((a, oe) :: pn)) (.Attribute e f pos) (dXf a C d C0 f te) := by
  refine PE.weak (pe_xf T hno hz hf he hb) fun σ H Q h => ?_
  obtain ⟨F, s, G, Q', hs, hg, h, k⟩ := h
  refine lE_b hs hg h fun v H1 F1 x G1 e1 s1 g1 i1 ⟨ex, eC, dd, fs, n, ed, hd, hl, q⟩ => ?_
  subst ex eC
  obtain ⟨z, hz, sm⟩ := g1.get hd
  rw [sm.1] at hz
  exact ⟨is_ref.mp i1, rfl, dd, fs, .int n, ed, hz, hl, k _ H1 F1 _ G1 e1 g1 (is_int.mpr rfl) q⟩
end
end Dg

/-! A def whose captured names are told when it ends. -/
namespace Dg
open PySem PySem.Spec L2
open PyProof.Rows (envOfC)
/-! ### a body that returns at its end; its slots are told -/
abbrev TZ := (V → St → Hp → Prop) → St → Hp → Prop
abbrev DZ := (D → DSt → Gp → Prop) → DSt → Gp → Prop
structure PZ (X : Cx) (b : List Stmt) (t : TZ) : Prop where
  run : ∀ (pins : List (Addr × Obj)) (s : Shared) (σ : St) (H : Hp) (R : V → St → Hp → Prop), Inv X pins σ H s → t R σ H → wpAny (model X.prog X.w) X.A (execs b X.env) (fun f s' => ∃ u v σ' H', f = .ret u ∧ Inv X pins σ' H' s' ∧ RelV v u ∧ R v σ' H') X.xe s
def lZ (t : DZ) : TZ := fun R σ H => ∃ F s G R', IsS F H s σ ∧ Hg F H G ∧ t R' s G ∧ ∀ v σ' H' F' d s' G', Ext F H F' H' → IsS F' H' s' σ' → Hg F' H' G' → Is F' H' d v → R' d s' G' → R v σ' H'
abbrev QZ (X : Cx) (b : List Stmt) (t : DZ) : Prop := PZ X b (lZ t)
def dzSeq (t : DS) (u : DZ) : DZ := fun R s G => t { nx := vN (u R), rt := fun _ _ => False } s G
def dzRet (t : DE) : DZ := fun R s G => t s G fun d G' => R d s G'
section
variable {X : Cx}
theorem qz_cons {st : Stmt} {rest : List Stmt} {t : DS} {u : DZ} (h1 : QS X st t) (h2 : QZ X rest u) : QZ X (st :: rest) (dzSeq t u) := by
  refine ⟨fun pins s σ H R I h => ?_⟩
  obtain ⟨F, d, G, R', hs, hg, h, k⟩ := h
  refine wpAny_execs_cons (thn (h1.run pins s σ H { nx := fun σ' H' => lZ u R σ' H', rt := fun _ _ => False } I ?_) fun f s1 q => ?_)
  · exact lS_b hs hg h ⟨Ks.vN fun σ' H' F' s' G' e i g q => ⟨F', s', G', R', i, g, q, fun v σ2 H2 F2 d2 s2 G2 e2 => k v σ2 H2 F2 d2 s2 G2 (e.trans e2)⟩, fun _ _ _ _ _ _ _ _ z => z.elim, fun _ _ _ _ _ _ _ _ z => z.elim, fun _ _ _ _ _ _ _ _ z => z.elim⟩
  · cases f with
    | next =>
      obtain ⟨σ', H', I', q⟩ := q
      exact h2.run pins s1 σ' H' R I' q
    | ret v =>
      obtain ⟨_, _, _, _, _, z⟩ := q
      exact z.elim
    | brk =>
      obtain ⟨_, _, _, z⟩ := q
      exact z.elim
    | cont =>
      obtain ⟨_, _, _, z⟩ := q
      exact z.elim
theorem qz_ret {e : Expr} {pos : Pos} {t : DE} (h : QE X e t) : QZ X [.Return (some e) pos] (dzRet t) := by
  refine ⟨fun pins s σ H R I z => ?_⟩
  obtain ⟨F, d, G, R', hs, hg, z, k⟩ := z
  refine wpAny_execs_cons (wpAny_Return_some (thn (h.run pins s σ H (fun v H' => R v σ H') I ?_) fun v s1 hq => ?_))
  · exact lE_b hs hg z fun v H1 F1 d1 G1 e1 s1 g1 i1 q => k v σ H1 F1 d1 d G1 e1 s1 g1 i1 q
  · obtain ⟨x, H1, I1, r1, q1⟩ := hq
    exact ⟨v, x, σ, H1, rfl, I1, r1, q1⟩
end
/-! ### functions learn what their cells hold -/
def capD (val : Addr → Option D) : List Addr → Option (List D)
  | [] => some []
  | a :: as => (match val a, capD val as with
    | some d, some ds => some (d :: ds)
    | _, _ => none)
def upS (val : Addr → Option D) : SO → SO
  | .fn L none => .fn L (capD val (L.cl.map (·.2)))
  | o => o
def upO (val : Addr → Option D) : GO → GO
  | .sm o => .sm (upS val o)
  | x => x
def upG (val : Addr → Option D) (G : Gp) : Gp := fun b => (G b).map (upO val)
/-- what val says stands in the cells -/
def ValOk (F : Fz) (H : Hp) (val : Addr → Option D) : Prop := ∀ a d, val a = some d → ∃ (oc : Obj) (u : Value) (v : V), H a = some (FzO oc) ∧ oc.data = .cell (some u) ∧ RelV v u ∧ Is F H d v
theorem cap_ok {F : Fz} {H : Hp} {val : Addr → Option D} (hv : ValOk F H val) : ∀ {as : List Addr} {ds : List D}, capD val as = some ds → ∃ vs, IsL F H ds vs ∧ CellsN H as vs
  | [], ds, h => by
    cases (show some [] = some ds from h)
    exact ⟨[], IsL.nil, .nil⟩
  | a :: as, ds, h => by
    unfold capD at h
    cases h1 : val a with
    | none =>
      rw [h1] at h
      cases h
    | some d =>
      cases h2 : capD val as with
      | none =>
        rw [h1, h2] at h
        cases h
      | some es =>
        rw [h1, h2] at h
        cases h
        obtain ⟨vs, h3, h4⟩ := cap_ok hv h2
        obtain ⟨oc, u, v, h5, h6, h7, h8⟩ := hv a d h1
        exact ⟨v :: vs, IsL.cons h8 h3, .cons ⟨oc, u, h5, h6, h7⟩ h4⟩
theorem upS_pl {val : Addr → Option D} {o : SO} (h : o.pl = true) : upS val o = o := by
  cases o with
  | fn L ds => cases h
  | _ => rfl
theorem Hg.up {F : Fz} {H : Hp} {G : Gp} {val : Addr → Option D} (g : Hg F H G) (hv : ValOk F H val) : Hg F H (upG val G) := by
  obtain ⟨S, ow, hs, f⟩ := g.ex
  refine ⟨g.fok, fun b => (S b).map (upS val), ow, fun b o e => ?_, fun a x e => ?_⟩
  · have e : (S b).map (upS val) = some o := e
    cases q : S b with
    | none =>
      rw [q] at e
      cases e
    | some o0 =>
      rw [q] at e
      cases e
      obtain ⟨nf, h, hb, sm⟩ := hs b o0 q
      refine ⟨nf, h, hb, ?_⟩
      cases o0 with
      | fn L ds =>
        cases ds with
        | none =>
          obtain ⟨nd, pm, ctv, c, h1, h2, _⟩ := sm
          exact ⟨nd, pm, ctv, c, h1, h2, fun es he => cap_ok hv he⟩
        | some es => exact sm
      | _ => exact sm
  · have e : (G a).map (upO val) = some x := e
    cases q : G a with
    | none =>
      rw [q] at e
      cases e
    | some x0 =>
      rw [q] at e
      cases e
      obtain ⟨h1, h2⟩ := f a x0 q
      refine ⟨h1, ?_⟩
      cases x0 with
      | sm o =>
        have h2 : S a = some o := h2
        show (S a).map (upS val) = some (upS val o)
        rw [h2]
        rfl
      | cmp L =>
        obtain ⟨ps, l, ho, hp⟩ := h2
        refine ⟨ps, l, ho, fun b o hb => ?_⟩
        obtain ⟨h3, h4⟩ := hp b o hb
        refine ⟨?_, h4⟩
        show (S b).map (upS val) = some o
        rw [h3, Option.map_some, upS_pl (all_pl ho.2 hb)]
/-- more is known -/
theorem Hg.more {F : Fz} {H H2 : Hp} {G : Gp} (g : Hg F H G) (k : ∀ b o, H b = some o → H2 b = some o) : Ext F H F H2 ∧ Hg F H2 G := by
  have ex : Ext F H F H2 := ⟨fun _ h => h, fun a ha => by
    obtain ⟨vs, h⟩ := g.fok a ha
    rw [h, k a _ h], fun a xs h => k a _ h, fun a o h => k a _ h⟩
  obtain ⟨S, ow, hs, f⟩ := g.ex
  refine ⟨ex, fun a ha => ?_, S, ow, fun b o e => ?_, f⟩
  · obtain ⟨vs, h⟩ := g.fok a ha
    exact ⟨vs, k a _ h⟩
  · obtain ⟨nf, h, hb, sm⟩ := hs b o e
    exact ⟨nf, h, k b _ hb, sm.mono ex⟩
/-! ### the def's end -/
/-- the cells that val speaks of are known from now on -/
def shw (h : Heap) (val : Addr → Option D) (H : Hp) : Hp := fun b => match val b with
  | some _ => (h.get? b).map FzO
  | none => H b
theorem shw_no {h : Heap} {val : Addr → Option D} {H : Hp} {b : Addr} (e : val b = none) : shw h val H b = H b := by
  unfold shw
  rw [e]
theorem shw_in {h : Heap} {val : Addr → Option D} {H : Hp} {b : Addr} {d : D} {o : Obj} (e : val b = some d) (ho : h.get? b = some o) : shw h val H b = some (FzO o) := by
  unfold shw
  rw [e, ho]
  rfl
/-- where the captured names stand among the slots -/
def ValAt (X : Cx) (s : DSt) (val : Addr → Option D) : Prop := ∀ a d, val a = some d → ∃ (y : Str) (i : Nat), X.env.cells.lookup y = some a ∧ X.N[i]? = some y ∧ X.env.scope.names.lookup y = some .cell ∧ s[i]? = some (some d)
theorem val_cells {X : Cx} {pins : List (Addr × Obj)} {σ : St} {H : Hp} {s : Shared} {F : Fz} {sd : DSt} {val : Addr → Option D} (I : Inv X pins σ H s) (hs : IsS F H sd σ) (hv : ValAt X sd val) :
    ∀ a d, val a = some d → H a = none ∧ ∃ (oc : Obj) (u : Value) (v : V), s.heap.get? a = some oc ∧ oc.data = .cell (some u) ∧ RelV v u ∧ Is F H d v := fun a d e => by
  obtain ⟨y, i, h1, h2, h3, h4⟩ := hv a d e
  obtain ⟨v, h5, h6⟩ := hs.2 i d h4
  obtain ⟨m, hn, hl⟩ := I.loc
  obtain ⟨u, r, l⟩ := hl i y v h2 h5 (.inr (.inl h3))
  rcases l with ⟨z, _⟩ | ⟨_, c, hc, oc, ho, hd⟩
  · have z : X.env.scope.names.lookup y = some .local := z
    rw [h3] at z
    cases z
  · rw [h1] at hc
    cases hc
    exact ⟨I.freeC y a h1, oc, u, v, ho, hd, r, h6⟩
section
variable {X : Cx} {pins : List (Addr × Obj)} {σ : St} {H : Hp} {s : Shared} {F : Fz} {sd : DSt} {val : Addr → Option D}
theorem shw_keep (hc : ∀ a d, val a = some d → H a = none) : ∀ b o, H b = some o → shw s.heap val H b = some o := fun b o e => by
  cases q : val b with
  | none => rw [shw_no q]; exact e
  | some d =>
    rw [hc b d q] at e
    cases e
theorem shw_hok {P : Program} {w : World} (hok : HOk P w H s.heap) (hc : ∀ a d, val a = some d → H a = none ∧ ∃ oc, s.heap.get? a = some oc) : HOk P w (shw s.heap val H) s.heap := fun b o e => by
  have kp := shw_keep (s := s) fun a d z => (hc a d z).1
  cases q : val b with
  | none =>
    rw [shw_no q] at e
    exact (hok b o e).stay (fun _ _ _ z => z) (fun c z => kp c _ z) fun c xs z => kp c _ z
  | some d =>
    obtain ⟨_, oc, ho⟩ := hc b d q
    rw [shw_in q ho] at e
    cases e
    exact fzO_ok ho
end
theorem fn_okZ {P : Program} {w : World} {K : PySem.W.Frag} {mg : Str → Option Value} {base : Heap} {x qual : Str} {params : Arguments} {body : List Stmt} {scope : Scope} {kws : List (Str × V)} {f : Addr} {fd : FuncData} {N ps : List Str} {k : Nat} {sp : DSp} {b : List (Str × Addr) → DZ}
    (F : FunD K x qual params body scope [] kws f fd) (S : FnScope N ps scope) (len : ∀ ds G Q, sp ds G Q → ds.length = ps.length)
    (hb : ∀ (cdv : Value) (A : Around) (outer : List Env) (s : Shared) (H : Hp) (E : XK), Room k (A.deeper (envOfC qual scope s.heap.objs.size f cdv)) → PySem.W.codeIn K cdv qual = true → (∃ oc od osl fdx, K.lookup f = some (⟨oc, od, .func fdx, osl⟩ : Obj) ∧ fdx.code = cdv) → QZ (cxOf CX0 P w K mg base N qual scope f cdv A outer s H E) body (b (cellsFrom (s.heap.objs.size + 1) scope.names [])))
    (hr : ∀ ds G Q cells, sp ds G Q → (∀ y, scope.names.lookup y = some .cell → ∃ c, cells.lookup y = some c) → b cells (fun d s' G' => ∃ val : Addr → Option D, (∀ a e, val a = some e → ∃ (y : Str) (i : Nat), cells.lookup y = some a ∧ N[i]? = some y ∧ scope.names.lookup y = some .cell ∧ s'[i]? = some (some e)) ∧ vR Q d (upG val G')) (startD N ds) G) :
    FnOk P w K mg base CX0 (k + 1) f fd ps (lSp sp) := by
  obtain ⟨oc0, od0, dV0, kV0, doc0, pm0, an0, cdv0, ct0, osl0, rfl, lk, hcd, _, _⟩ := F.ex
  refine ⟨fun vs H Q E h => ?_, fun A outer s H args us vs Q E hroom e0 hbind hvals hsp => ?_⟩
  · obtain ⟨F1, ds, G, Q', hl, hg, h, k⟩ := h
    rw [hl.length]
    exact len ds G Q' h
  · obtain ⟨F1, ds, G, Q', il, hg, hsp, kc⟩ := hsp
    have kin : K.In s.heap := e0.mod.kin.keeps fun b o e => (e0.bs b o e).1
    have nolim : s.heap.NoLimit := e0.mod.nolimit.keeps fun b o e => (e0.bs b o e).1
    have hlen : vs.length = ps.length := by rw [il.length]; exact len ds G Q' hsp
    refine codeAny_call_function hroom.depth (kin _ _ lk) rfl S.co S.gen rfl (PySem.W.codeRec_of kin hcd) (hbind _ _ _ _ ?_)
    refine wpAny_newFunctionEnv_cells S.kind (fun p hp => ?_) fun env henv s1 hx => ?_
    · rcases S.par p.1 (List.of_mem_zip hp).1 with z | z
      · exact .inl z
      · exact .inr ⟨z, PySem.W.cellsFrom_some _ _ _ (.inl z)⟩
    · subst henv
      refine ⟨nolim.keeps hx.toInCall.keep, codeAny_func ?_⟩
      have I := inv_start (CX := CX0) (E := E) (f := f) (cd := cdv0) (qual := qual) S hroom.hd e0 hlen hvals hx
      have hq := hr ds G Q' (cellsFrom (s.heap.objs.size + 1) scope.names []) hsp fun y hy => cell_has hy
      refine wpAny_mono ((hb cdv0 A outer s H E (hroom.deeper _) hcd ⟨_, _, _, _, lk, rfl⟩).run [] s1 (L2.start N vs) H (fun v σ' H' => ∃ F' sd val d G', Ext F1 H F' H' ∧ IsS F' H' sd σ' ∧ Hg F' H' G' ∧ Is F' H' d v ∧ (∀ a e, val a = some e → ∃ (y : Str) (i : Nat), (cellsFrom (s.heap.objs.size + 1) scope.names []).lookup y = some a ∧ N[i]? = some y ∧ scope.names.lookup y = some .cell ∧ sd[i]? = some (some e)) ∧ vR Q' d (upG val G')) I ?_) (fun fl s' hs => ?_) fun e s' hs => hs
      · refine ⟨F1, _, G, _, start_ok il, hg, hq, fun v σ' H' F' d s' G' e i g id ⟨val, h1, h2⟩ => ⟨F', s', val, d, G', e, i, g, id, h1, h2⟩⟩
      · obtain ⟨u, v, σ', H', rfl, J, rv, F', sd, val, d, G', ex, is', hg', id', hval, hq'⟩ := hs
        have cells := val_cells J is' (val := val) hval
        have hn : ∀ a e, val a = some e → H' a = none := fun a e z => (cells a e z).1
        have kp := shw_keep (s := s') hn
        obtain ⟨ex2, g2⟩ := hg'.more kp
        have vok : ValOk F' (shw s'.heap val H') val := fun a e z => by
          obtain ⟨_, oc, u, v, h1, h2, h3, h4⟩ := cells a e z
          exact ⟨oc, u, v, shw_in z h1, h2, h3, h4.mono ex2⟩
        have g3 := g2.up vok
        obtain ⟨F4, d4, G4, e4, i4, g4, q4⟩ := hq' F' _ v (id'.mono ex2) g3
        have B := J.base
        have young : ∀ a e, val a = some e → s.heap.objs.size ≤ a := fun a e z => by
          obtain ⟨y, i, h1, _⟩ := hval a e z
          exact J.ok.cab y a rfl h1
        have free : ∀ b o, s.heap.get? b = some o → val b = none := fun b o e => by
          cases q : val b with
          | none => rfl
          | some e' => exact absurd (Heap.lt_size e) (Nat.not_lt.mpr (young b e' q))
        refine ⟨v, shw s'.heap val H', J.os, J.bare, ⟨B.keep, B.slot, fun b o e n hx => ?_, B.there, fun b xs e => kp b _ (B.tups b xs e), fun b o u e => kp b _ (B.frzs b o u e), fun b qs e => ?_⟩, shw_hok J.hok (fun a e z => ⟨(cells a e z).1, let ⟨_, oc, _, _, h, _⟩ := cells a e z; ⟨oc, h⟩⟩), rv, kc v _ F4 d4 G4 ((ex.trans ex2).trans e4) g4 i4 q4⟩
        · rw [shw_no (free b o e)]
          exact B.free b o e n hx
        · obtain ⟨more, h⟩ := B.tbls b qs e
          exact ⟨more, kp b _ h⟩
end Dg

/-! C(..) and o.m(..) that may raise. -/
namespace Dg
open PySem PySem.Spec L2
open PyProof.Rows (envOfC)
structure MkrX (P : Program) (w : World) (K : PySem.W.Frag) (mg : Str → Option Value) (base : Heap) (x : Str) (C : Addr) (ps : List Str) (k : Nat) (sp : DSpX) : Prop where
  ex : ∃ f fd, FnOk P w K mg base (L2.CX P w) k f fd ps (lSpX sp) ∧ Mk K C f ∧ mg x = some (.ref C) ∧ Binds K fd ps []
structure MtX (P : Program) (w : World) (K : PySem.W.Frag) (mg : Str → Option Value) (base : Heap) (C : Addr) (m : Str) (ps : List Str) (k : Nat) (sp : DSpX) : Prop where
  ex : ∃ f fd, FnOk P w K mg base (L2.CX P w) k f fd ps (lSpX sp) ∧ Cls K C ∧ Meth K C m f ∧ Binds K fd ps []
def dMakeX (C : Addr) (sp : DSpX) (E' : DXK) (t : DA) : DE := fun s G Q => t s G fun ds G1 => ∀ x dx, G1 x = none → sp (.ref x :: ds) (ud G1 x (.sm (.ins C dx []))) (fun v G2 => v = .non ∧ Q (.ref x) G2) E'
def dMethX (C : Addr) (m : Str) (sp : DSpX) (E' : DXK) (to : DE) (t : DA) : DE := fun s G Q => to s G fun x G1 => ∃ p, x = .ref p ∧ insAt G1 p C m ∧ t s G1 fun ds G2 => sp (x :: ds) G2 Q E'
section
variable {X : Cx}
theorem qe_makeX {x : Str} {C : Addr} {p pos : Pos} {e : Expr} {es : List Expr} {k j : Nat} {ps : List Str} {sp : DSpX} {E' : DXK} {t : DA} (M : MkrX X.prog X.w X.K X.mg X.base x C ps k sp) (hr : Room j X.A) (hj : k + 1 ≤ j) (hg : Gl X x) (tk : TK X E') (ha : QA X (e :: es) t)
    (hdb : (x == ("__debug__" : Str)) = false := by decide) (he : starEach (e :: es) X.env = (false, eval e X.env) :: starEach es X.env := by rfl) (hpl : (backTo pos (starEach es X.env)).any (·.1) = false := by rfl) : QE X (.Call (.Name x p) (e :: es) [] pos) (dMakeX C sp E' t) := by
  obtain ⟨f, fd, h1, h2, h3, h4⟩ := M.ex
  obtain ⟨E, tk, ke⟩ := tk.ex
  refine PE.weak (pe_make h2 h1 (hr.mono hj) hg h3 h4 .nil (passes_call (E := E) tk fun _ _ _ _ h => h) ha hdb he hpl) fun σ H Q z => ?_
  obtain ⟨F, s, G, Q', hs, hg, h, k⟩ := z
  refine lA_b hs hg h fun vs H1 F1 ds G1 e1 s1 g1 i1 q => ?_
  intro x dx hx hdx hne
  have ex1 : Ext F1 H1 F1 (upd H1 dx (.own x)) := ext_new g1.fok hdx
  have g2 : Hg F1 (upd H1 dx (.own x)) G1 := g1.newT hdx
  have hx2 : upd H1 dx (.own x) x = none := by rw [upd_ne (Ne.symm hne)]; exact hx
  have ex2 : Ext F1 (upd H1 dx (.own x)) F1 (upd (upd H1 dx (.own x)) x (.ins C dx [])) := ext_new g2.fok hx2
  have g3 := g2.new (o := .ins C dx []) (z := .ins C dx []) hx2 ⟨[], rfl, .nil⟩
  show lSpX sp (.ref x :: (vs ++ [])) _ _ _
  rw [List.append_nil]
  refine ⟨F1, .ref x :: ds, _, _, E', IsL.cons (is_ref.mpr rfl) (i1.mono (ex1.trans ex2)), g3, q x dx (g1.fresh hx), fun v H' F' d G' e g i ⟨hv, q2⟩ => ?_, ke⟩
  subst hv
  exact ⟨is_non.mp i, k _ H' F' _ G' (((e1.trans ex1).trans ex2).trans e) g (is_ref.mpr rfl) q2⟩
end
end Dg

/-! The lambdas of the law's text. -/
namespace Dg
open PySem PySem.Spec L2
def stW : Stmt := PySem.Challenge.pw_learnports_k01_webs_refused.main.body.getD 36 (.Pass ⟨0, 0, 0, 0⟩)
def arg0 : Stmt → Expr
  | .Assign _ (.List [e] _) _ => e
  | .Expr (.Call _ [e] _ _) _ => e
  | st => .Constant .none 0 ⟨0, 0, 0, 0⟩
def lm (i : Nat) : Expr := arg0 ((defBody stW).getD i (.Pass ⟨0, 0, 0, 0⟩))
def lamPar : Expr → Arguments
  | .Lambda p _ _ _ => p
  | _ => ⟨[], [], none, [], [], none, []⟩
def lamBody : Expr → Expr
  | .Lambda _ b _ _ => b
  | e => e
def lamScope : Expr → Scope
  | .Lambda _ _ s _ => s
  | _ => defScope stW
def qW : Str := "_law_works" ++ ".<locals>." ++ "<lambda>"
/-- the table of the lambdas' code objects -/
def tW (K : PySem.W.Frag) : Addr := (He.cT K ("_law_works", none)).2
def lmR (i : Nat) (cl : List (Str × Addr)) : LamR := ⟨qW, lamPar (lm i), lamBody (lm i), lamScope (lm i), cl⟩
abbrev cloI (cells : List (Str × Addr)) (i : Nat) : List (Str × Addr) := cloFrom cells (lamScope (lm i)).names []
def cW (cells : List (Str × Addr)) : Addr := (cells.lookup ("_law_web_here" : Str)).getD 0
theorem clo0 (cells : List (Str × Addr)) : cloI cells 0 = [(("_law_web_here" : Str), cW cells)] := rfl
theorem clo1 (cells : List (Str × Addr)) : cloI cells 1 = [(("_law_web_here" : Str), cW cells)] := rfl
theorem clo2 (cells : List (Str × Addr)) : cloI cells 2 = [(("_law_web_here" : Str), cW cells)] := rfl
theorem clo3 (cells : List (Str × Addr)) : cloI cells 3 = [(("_law_web_here" : Str), cW cells)] := rfl
theorem clo4 (cells : List (Str × Addr)) : cloI cells 4 = [(("_law_web_here" : Str), cW cells)] := rfl
end Dg

namespace Mg
/-- what is joined by steps -/
inductive Rt {α : Type} (R : α → α → Prop) : α → α → Prop
  | refl (a : α) : Rt R a a
  | tail {a b c : α} : Rt R a b → R b c → Rt R a c
theorem Rt.one {α : Type} {R : α → α → Prop} {a b : α} (h : R a b) : Rt R a b := .tail (.refl a) h
theorem Rt.trans {α : Type} {R : α → α → Prop} {a b c : α} (h : Rt R a b) (k : Rt R b c) : Rt R a c := by
  induction k with
  | refl => exact h
  | tail _ s ih => exact .tail ih s
theorem Rt.symm {α : Type} {R : α → α → Prop} (sy : ∀ a b, R a b → R b a) {a b : α} (h : Rt R a b) : Rt R b a := by
  induction h with
  | refl => exact .refl _
  | tail _ s ih => exact (Rt.one (sy _ _ s)).trans ih
theorem Rt.mono {α : Type} {R S : α → α → Prop} (k : ∀ a b, R a b → S a b) {a b : α} (h : Rt R a b) : Rt S a b := by
  induction h with
  | refl => exact .refl _
  | tail _ s ih => exact .tail ih (k _ _ s)
theorem Rt.bind {α : Type} {R S : α → α → Prop} (k : ∀ a b, R a b → Rt S a b) {a b : α} (h : Rt R a b) : Rt S a b := by
  induction h with
  | refl => exact .refl _
  | tail _ s ih => exact ih.trans (k _ _ s)
/-- what is closed under steps holds what is joined -/
theorem Rt.closed {α : Type} {R : α → α → Prop} {P : α → Prop} (k : ∀ a b, R a b → P a → P b) {a b : α} (h : Rt R a b) (p : P a) : P b := by
  induction h with
  | refl => exact p
  | tail _ s ih => exact k _ _ s ih
structure Lk where
  a : Int
  x : Int
  b : Int
  y : Int
  deriving DecidableEq
def getI (ls : List Lk) (k : Int) : Option Lk := if 0 ≤ k then ls[k.toNat]? else none
def Lk.other (l : Lk) (c : Int) : Int := if l.a = c then l.b else l.a
def Lk.has (l : Lk) (c : Int) : Prop := c = l.a ∨ c = l.b
instance (l : Lk) (c : Int) : Decidable (l.has c) := inferInstanceAs (Decidable (_ ∨ _))
/-- joined by one of the links that have these numbers -/
def Adj (ls : List Lk) (ns : List Int) (u v : Int) : Prop := ∃ k ∈ ns, ∃ l, getI ls k = some l ∧ ((l.a = u ∧ l.b = v) ∨ (l.b = u ∧ l.a = v))
theorem Adj.symm {ls : List Lk} {ns : List Int} (u v : Int) (h : Adj ls ns u v) : Adj ls ns v u := by
  obtain ⟨k, hk, l, hl, h⟩ := h
  exact ⟨k, hk, l, hl, by grind⟩
abbrev Jn (ls : List Lk) (ns : List Int) (u v : Int) : Prop := Rt (Adj ls ns) u v
/-! ### breadth first -/
def nextF (ls : List Lk) (ns : List Int) (c : Int) : List (Int × Int) := ns.filterMap fun k => match getI ls k with
  | some l => if l.has c then some (k, if l.a = c then l.b else l.a) else none
  | none => none
theorem mem_nextF {ls : List Lk} {ns : List Int} {c : Int} {p : Int × Int} : p ∈ nextF ls ns c ↔ p.1 ∈ ns ∧ ∃ l, getI ls p.1 = some l ∧ l.has c ∧ p.2 = (if l.a = c then l.b else l.a) := by
  unfold nextF
  rw [List.mem_filterMap]
  constructor
  · rintro ⟨k, hk, h⟩
    cases e : getI ls k with
    | none => simp [e] at h
    | some l =>
      simp only [e] at h
      split at h
      · cases h
        exact ⟨hk, l, e, by assumption, rfl⟩
      · cases h
  · rintro ⟨hk, l, e, h1, h2⟩
    refine ⟨p.1, hk, ?_⟩
    simp only [e, if_pos h1, ← h2]
/-- the ways known: box, links' numbers -/
abbrev Ways := List (Int × List Int)
def wGet (w : Ways) (c : Int) : Option (List Int) := (w.find? fun p => decide (p.1 = c)).map (·.2)
def innerF (wh : List Int) : List (Int × Int) → Ways × List Int → Ways × List Int
  | [], st => st
  | (k, c) :: r, (w, q) => if (wGet w c).isNone then innerF wh r (w ++ [(c, wh ++ [k])], q ++ [c]) else innerF wh r (w, q)
def bfsF (ls : List Lk) (ns : List Int) : Nat → Ways × List Int → Ways × List Int
  | 0, st => st
  | _ + 1, (w, []) => (w, [])
  | f + 1, (w, c :: q) => bfsF ls ns f (innerF ((wGet w c).getD []) (nextF ls ns c) (w, q))
def wayF (ls : List Lk) (ns : List Int) (u v : Int) : Option (List Int) := wGet (bfsF ls ns 20 ([(u, [])], [u])).1 v
def trailF (ls : List Lk) : List Int → Int × List Int → Option (Int × List Int)
  | [], st => some st
  | k :: r, (c, m) => match getI ls k with
    | some l => if l.has c ∧ c ∉ m then trailF ls r (if c = l.a then l.b else l.a, m ++ [c]) else none
    | none => none
theorem trail_snoc {ls : List Lk} {k : Int} : ∀ {p : List Int} {st : Int × List Int} {c : Int} {m : List Int} {l : Lk}, trailF ls p st = some (c, m) → getI ls k = some l → l.has c → c ∉ m → trailF ls (p ++ [k]) st = some (if c = l.a then l.b else l.a, m ++ [c])
  | [], st, c, m, l, h, hl, hc, hm => by
    simp only [trailF, Option.some.injEq] at h
    subst h
    simp only [List.nil_append, trailF, hl]
    rw [if_pos ⟨hc, hm⟩]
  | j :: r, (c0, m0), c, m, l, h, hl, hc, hm => by
    simp only [trailF, List.cons_append] at h ⊢
    cases e : getI ls j with
    | none => simp [e] at h
    | some l0 =>
      simp only [e] at h ⊢
      split at h
      · rename_i h1
        rw [if_pos h1]
        exact trail_snoc h hl hc hm
      · cases h
def keysW (w : Ways) : List Int := w.map (·.1)
theorem wGet_none {w : Ways} {c : Int} : (wGet w c).isNone = true ↔ c ∉ keysW w := by
  simp only [wGet, keysW, Option.isNone_map, Option.isNone_iff_eq_none, List.find?_eq_none]
  grind
theorem wGet_some {w : Ways} {c : Int} {p : List Int} (h : wGet w c = some p) : (c, p) ∈ w := by
  simp only [wGet, Option.map_eq_some_iff] at h
  obtain ⟨q, h1, h2⟩ := h
  have h3 := List.find?_some h1
  have h4 := List.mem_of_find?_eq_some h1
  have e : q = (c, p) := by
    obtain ⟨a, b⟩ := q
    simp at h3 h2
    rw [h3, h2]
  rw [← e]
  exact h4
theorem wGet_mem {w : Ways} {c : Int} (h : c ∈ keysW w) : ∃ p, wGet w c = some p := by
  cases e : wGet w c with
  | some p => exact ⟨p, rfl⟩
  | none =>
    have := wGet_none.mp (by rw [e]; rfl)
    exact absurd h this
/-- what is kept of one way -/
structure WayOk (ls : List Lk) (ns : List Int) (u : Int) (keys : List Int) (c : Int) (p : List Int) : Prop where
  tr : ∃ m, trailF ls p (u, []) = some (c, m) ∧ c ∉ m ∧ ∀ x ∈ m, x ∈ keys
  nd : p.Nodup
  inn : ∀ k ∈ p, k ∈ ns
  both : ∀ k ∈ p, ∃ l, getI ls k = some l ∧ l.a ∈ keys ∧ l.b ∈ keys
  jn : Jn ls ns u c
theorem WayOk.mono {ls : List Lk} {ns : List Int} {u : Int} {k1 k2 : List Int} {c : Int} {p : List Int} (h : WayOk ls ns u k1 c p) (k : ∀ x ∈ k1, x ∈ k2) : WayOk ls ns u k2 c p := by
  obtain ⟨⟨m, h1, h2, h3⟩, b, c, d, e⟩ := h
  exact ⟨⟨m, h1, h2, fun x hx => k x (h3 x hx)⟩, b, c, fun j hj => let ⟨l, x, y, z⟩ := d j hj; ⟨l, x, k _ y, k _ z⟩, e⟩
structure BInv (ls : List Lk) (ns : List Int) (n : Int) (u : Int) (st : Ways × List Int) : Prop where
  nd : (keysW st.1).Nodup
  rg : ∀ c ∈ keysW st.1, 0 ≤ c ∧ c < n
  un : u ∈ keysW st.1
  ok : ∀ q ∈ st.1, WayOk ls ns u (keysW st.1) q.1 q.2
  q : ∀ c ∈ st.2, c ∈ keysW st.1
/-- links' boxes are boxes -/
def LsOk (n : Int) (ls : List Lk) : Prop := ∀ l ∈ ls, 0 ≤ l.a ∧ l.a < n ∧ 0 ≤ l.b ∧ l.b < n ∧ l.a ≠ l.b
theorem getI_mem {ls : List Lk} {k : Int} {l : Lk} (h : getI ls k = some l) : l ∈ ls := by
  unfold getI at h
  split at h
  · exact List.mem_of_getElem? h
  · cases h
/-- what stands behind the inner loop -/
theorem inner_ok {ls : List Lk} {ns : List Int} {n : Int} {u c : Int} {wh : List Int} (hls : LsOk n ls) : ∀ {r : List (Int × Int)} {st : Ways × List Int}, BInv ls ns n u st → WayOk ls ns u (keysW st.1) c wh → c ∈ keysW st.1 →
    (∀ p ∈ r, p ∈ nextF ls ns c) → BInv ls ns n u (innerF wh r st) ∧ (∀ x ∈ keysW st.1, x ∈ keysW (innerF wh r st).1) ∧ (∀ p ∈ r, p.2 ∈ keysW (innerF wh r st).1) ∧
    (∀ x ∈ keysW (innerF wh r st).1, x ∈ keysW st.1 ∨ x ∈ (innerF wh r st).2) ∧ (∀ x ∈ st.2, x ∈ (innerF wh r st).2) ∧ (innerF wh r st).2.length + (keysW st.1).length = st.2.length + (keysW (innerF wh r st).1).length
  | [], st, b, ho, hc, hr => by simp [innerF]; exact ⟨b, fun x hx => .inl hx⟩
  | (k, d) :: r, (w, q), b, ho, hc, hr => by
    have hkd := hr (k, d) (List.mem_cons_self ..)
    have hr' : ∀ p ∈ r, p ∈ nextF ls ns c := fun p hp => hr p (List.mem_cons_of_mem _ hp)
    unfold innerF
    by_cases hn : (wGet w d).isNone = true
    · rw [if_pos hn]
      have hdk : d ∉ keysW w := wGet_none.mp hn
      obtain ⟨hk, l, hl, hlc, hd⟩ := mem_nextF.mp hkd
      simp only at hk hl hd
      have hlm := getI_mem hl
      have hlo := hls l hlm
      have kw : keysW (w ++ [(d, wh ++ [k])]) = keysW w ++ [d] := by simp [keysW]
      have ho2 : WayOk ls ns u (keysW w ++ [d]) d (wh ++ [k]) := by
        obtain ⟨⟨m, h1, h2, h3⟩, h4, h5, h6, h7⟩ := ho
        refine ⟨⟨m ++ [c], ?_, ?_, ?_⟩, ?_, ?_, ?_, ?_⟩
        · rw [trail_snoc h1 hl hlc h2]
          congr 2
          unfold Lk.has at hlc
          grind
        · simp only [List.mem_append, List.mem_singleton, not_or]
          refine ⟨fun z => hdk (h3 d z), fun z => hdk (z ▸ hc)⟩
        · intro x hx
          simp only [List.mem_append, List.mem_singleton] at hx ⊢
          rcases hx with hx | hx
          · exact .inl (h3 x hx)
          · exact .inl (hx ▸ hc)
        · rw [List.nodup_append]
          refine ⟨h4, by simp, ?_⟩
          intro a ha b hb
          simp only [List.mem_singleton] at hb
          subst hb
          rintro rfl
          obtain ⟨l2, e1, e2, e3⟩ := h6 a ha
          rw [hl] at e1
          cases e1
          have : d = l.a ∨ d = l.b := by unfold Lk.has at hlc; grind
          rcases this with z | z <;> (rw [z] at hdk; contradiction)
        · intro j hj
          simp only [List.mem_append, List.mem_singleton] at hj
          rcases hj with hj | rfl
          · exact h5 j hj
          · exact hk
        · intro j hj
          simp only [List.mem_append, List.mem_singleton] at hj ⊢
          rcases hj with hj | rfl
          · obtain ⟨l2, e1, e2, e3⟩ := h6 j hj
            exact ⟨l2, e1, .inl e2, .inl e3⟩
          · refine ⟨l, hl, ?_, ?_⟩ <;> (unfold Lk.has at hlc; grind)
        · refine h7.tail ⟨k, hk, l, hl, ?_⟩
          unfold Lk.has at hlc
          grind
      have b2 : BInv ls ns n u (w ++ [(d, wh ++ [k])], q ++ [d]) := by
        obtain ⟨h1, h2, h3, h4, h5⟩ := b
        refine ⟨?_, ?_, ?_, ?_, ?_⟩
        · simp only [kw]
          rw [List.nodup_append]
          exact ⟨h1, by simp, by simp only [List.mem_singleton]; rintro a ha b rfl rfl; exact hdk ha⟩
        · simp only [kw, List.mem_append, List.mem_singleton]
          rintro x (hx | rfl)
          · exact h2 x hx
          · unfold Lk.has at hlc; grind
        · simp only [kw, List.mem_append]
          exact .inl h3
        · simp only [kw, List.mem_append, List.mem_singleton]
          rintro p (hp | rfl)
          · exact (h4 p hp).mono fun x hx => by simp [hx]
          · exact ho2
        · simp only [kw, List.mem_append, List.mem_singleton]
          rintro x (hx | rfl)
          · exact .inl (h5 x hx)
          · exact .inr rfl
      have ih := inner_ok (c := c) (wh := wh) hls (r := r) b2 (by rw [kw]; exact ho.mono fun x hx => by simp [hx]) (by rw [kw]; simp [hc]) hr'
      obtain ⟨i1, i2, i3, i4, i5, i6⟩ := ih
      refine ⟨i1, fun x hx => i2 x (by rw [kw]; simp [hx]), ?_, ?_, fun x hx => i5 x (by simp [hx]), ?_⟩
      · rintro p hp
        rcases List.mem_cons.mp hp with rfl | hp
        · exact i2 d (by rw [kw]; simp)
        · exact i3 p hp
      · intro x hx
        rcases i4 x hx with z | z
        · rw [kw] at z
          simp only [List.mem_append, List.mem_singleton] at z
          rcases z with z | rfl
          · exact .inl z
          · exact .inr (i5 x (by simp))
        · exact .inr z
      · simp only [kw, List.length_append, List.length_singleton] at i6 ⊢
        omega
    · rw [if_neg hn]
      have hdk : d ∈ keysW w := Classical.byContradiction fun z => hn (wGet_none.mpr z)
      obtain ⟨i1, i2, i3, i4, i5, i6⟩ := inner_ok (c := c) (wh := wh) hls (r := r) b ho hc hr'
      refine ⟨i1, i2, ?_, i4, i5, i6⟩
      rintro p hp
      rcases List.mem_cons.mp hp with rfl | hp
      · exact i2 d hdk
      · exact i3 p hp
/-- unlike whole numbers below n are at most n -/
theorem nodup_le : ∀ {n : Nat} {xs : List Int}, xs.Nodup → (∀ x ∈ xs, 0 ≤ x ∧ x < (n : Int)) → xs.length ≤ n
  | 0, xs, _, h => by
    cases xs with
    | nil => simp
    | cons x xs => have := h x (List.mem_cons_self ..); omega
  | n + 1, xs, nd, h => by
    have h1 : (xs.filter fun x => decide (x ≠ (n : Int))).length ≤ n := nodup_le (nd.filter _) fun x hx => by
      have := List.mem_filter.mp hx
      have := h x this.1
      grind
    have h2 : xs.length ≤ (xs.filter fun x => decide (x ≠ (n : Int))).length + 1 := by
      clear h1 h
      induction xs with
      | nil => simp
      | cons x xs ih =>
        have nd2 := List.nodup_cons.mp nd
        by_cases hx : x = (n : Int)
        · have e : (xs.filter fun x => decide (x ≠ (n : Int))) = xs := List.filter_eq_self.mpr fun y hy => by grind
          rw [List.filter_cons_of_neg (by simp [hx]), e]
          simp
        · rw [List.filter_cons_of_pos (by simp [hx])]
          have := ih nd2.2
          simp only [List.length_cons]
          omega
    omega
/-- all that was looked at has its neighbours known -/
def Shut (ls : List Lk) (ns : List Int) (st : Ways × List Int) : Prop := ∀ c ∈ keysW st.1, c ∉ st.2 → ∀ v, Adj ls ns c v → v ∈ keysW st.1
theorem adj_next {ls : List Lk} {ns : List Int} {c v : Int} (h : Adj ls ns c v) : ∃ k, (k, v) ∈ nextF ls ns c := by
  obtain ⟨k, hk, l, hl, h⟩ := h
  refine ⟨k, mem_nextF.mpr ⟨hk, l, hl, ?_⟩⟩
  unfold Lk.has
  grind
theorem adj_nextF {ls : List Lk} {ns : List Int} {n : Int} (hls : LsOk n ls) {c v : Int} (h : Adj ls ns c v) : ∃ p ∈ nextF ls ns c, p.2 = v := by
  obtain ⟨k, hk⟩ := adj_next h
  exact ⟨_, hk, rfl⟩
theorem bfs_step {ls : List Lk} {ns : List Int} {n : Nat} {u c : Int} (hls : LsOk n ls) {w : Ways} {q : List Int} (b : BInv ls ns n u (w, c :: q)) (s : Shut ls ns (w, c :: q)) :
    BInv ls ns n u (innerF ((wGet w c).getD []) (nextF ls ns c) (w, q)) ∧ Shut ls ns (innerF ((wGet w c).getD []) (nextF ls ns c) (w, q)) ∧
    (innerF ((wGet w c).getD []) (nextF ls ns c) (w, q)).2.length + (keysW w).length = q.length + (keysW (innerF ((wGet w c).getD []) (nextF ls ns c) (w, q)).1).length := by
  have hc : c ∈ keysW w := b.q c (List.mem_cons_self ..)
  obtain ⟨p, hp⟩ := wGet_mem hc
  have ho := b.ok _ (wGet_some hp)
  rw [hp, Option.getD_some]
  have b0 : BInv ls ns n u (w, q) := ⟨b.nd, b.rg, b.un, b.ok, fun x hx => b.q x (List.mem_cons_of_mem _ hx)⟩
  obtain ⟨i1, i2, i3, i4, i5, i6⟩ := inner_ok (c := c) (wh := p) hls (r := nextF ls ns c) (st := (w, q)) b0 ho hc fun _ z => z
  refine ⟨i1, ?_, i6⟩
  intro x hx hxq v hv
  rcases i4 x hx with z | z
  · by_cases e : x = c
    · subst e
      obtain ⟨k, hk⟩ := adj_next hv
      exact i3 _ hk
    · exact i2 v (s x z (by
        simp only [List.mem_cons, not_or]
        exact ⟨e, fun y => hxq (i5 x y)⟩) v hv)
  · exact absurd z hxq
theorem bfs_ok {ls : List Lk} {ns : List Int} {n : Nat} {u : Int} (hls : LsOk n ls) : ∀ {f : Nat} {st : Ways × List Int}, BInv ls ns n u st → Shut ls ns st → n + st.2.length ≤ f + (keysW st.1).length →
    BInv ls ns n u (bfsF ls ns f st) ∧ Shut ls ns (bfsF ls ns f st) ∧ (bfsF ls ns f st).2 = []
  | f, (w, []), b, s, h => by
    cases f with
    | zero => exact ⟨b, s, rfl⟩
    | succ f => exact ⟨b, s, rfl⟩
  | 0, (w, c :: q), b, s, h => by
    have := nodup_le b.nd b.rg
    simp only [List.length_cons] at h
    simp only at this
    omega
  | f + 1, (w, c :: q), b, s, h => by
    obtain ⟨b2, s2, hl⟩ := bfs_step hls b s
    rw [bfsF]
    refine bfs_ok hls b2 s2 ?_
    simp only [List.length_cons] at h
    omega
theorem bfs_start {ls : List Lk} {ns : List Int} {n : Nat} {u : Int} (h0 : 0 ≤ u) (h1 : u < n) : BInv ls ns n u ([(u, [])], [u]) ∧ Shut ls ns ([(u, [])], [u]) := by
  refine ⟨⟨by simp [keysW], by simp [keysW]; omega, by simp [keysW], ?_, by simp [keysW]⟩, ?_⟩
  · simp only [List.mem_singleton]
    rintro q rfl
    exact ⟨⟨[], rfl, by simp, by simp⟩, by simp, by simp, by simp, .refl _⟩
  · intro c hc hq
    simp [keysW] at hc hq
    contradiction
/-- the end of the search -/
theorem way_done {ls : List Lk} {ns : List Int} {n : Nat} {u : Int} (hls : LsOk n ls) (hn : n ≤ 6) (h0 : 0 ≤ u) (h1 : u < n) : BInv ls ns n u (bfsF ls ns 20 ([(u, [])], [u])) ∧ Shut ls ns (bfsF ls ns 20 ([(u, [])], [u])) ∧ (bfsF ls ns 20 ([(u, [])], [u])).2 = [] :=
  bfs_ok hls (bfs_start h0 h1).1 (bfs_start h0 h1).2 (by simp [keysW]; omega)
theorem way_none {ls : List Lk} {ns : List Int} {n : Nat} {u v : Int} (hls : LsOk n ls) (hn : n ≤ 6) (h0 : 0 ≤ u) (h1 : u < n) : wayF ls ns u v = none ↔ ¬ Jn ls ns u v := by
  obtain ⟨b, s, e⟩ := way_done (ns := ns) hls hn h0 h1
  unfold wayF
  constructor
  · intro h j
    have hv : v ∉ keysW (bfsF ls ns 20 ([(u, [])], [u])).1 := wGet_none.mp (by rw [h]; rfl)
    exact hv (Rt.closed (P := fun c => c ∈ keysW (bfsF ls ns 20 ([(u, [])], [u])).1) (fun x y r hx => s x hx (by rw [e]; simp) y r) j b.un)
  · intro h
    cases e2 : wGet (bfsF ls ns 20 ([(u, [])], [u])).1 v with
    | none => rfl
    | some p => exact absurd (b.ok _ (wGet_some e2)).jn h
theorem way_some {ls : List Lk} {ns : List Int} {n : Nat} {u v : Int} {p : List Int} (hls : LsOk n ls) (hn : n ≤ 6) (h0 : 0 ≤ u) (h1 : u < n) (h : wayF ls ns u v = some p) : (∃ m, trailF ls p (u, []) = some (v, m) ∧ v ∉ m) ∧ p.Nodup ∧ (∀ k ∈ p, k ∈ ns) := by
  obtain ⟨b, s, e⟩ := way_done (ns := ns) hls hn h0 h1
  unfold wayF at h
  have o := b.ok _ (wGet_some h)
  obtain ⟨m, h1, h2, h3⟩ := o.tr
  exact ⟨⟨m, h1, h2⟩, o.nd, o.inn⟩
/-! ### groups by spreading -/
def gA (f : List Int) (c : Int) : Int := f.getD c.toNat 0
def gPut (f : List Int) (l : Lk) : List Int := (f.set l.a.toNat (min (gA f l.a) (gA f l.b))).set l.b.toNat (min (gA f l.a) (gA f l.b))
def gStep (ls : List Lk) (f : List Int) (k : Int) : List Int := match getI ls k with
  | some l => gPut f l
  | none => f
def turnF (ls : List Lk) (ns : List Int) (f : List Int) : List Int := ns.foldl (gStep ls) f
def turnsF (ls : List Lk) (ns : List Int) : Nat → List Int → List Int
  | 0, f => f
  | t + 1, f => turnsF ls ns t (turnF ls ns f)
def rangeI (n : Nat) : List Int := (List.range n).map fun (i : Nat) => (i : Int)
def groupsF (n : Nat) (ls : List Lk) (ns : List Int) : List Int := turnsF ls ns n (rangeI n)
theorem gPut_at {n : Nat} {f : List Int} {l : Lk} (hf : f.length = n) (hl : 0 ≤ l.a ∧ l.a < n ∧ 0 ≤ l.b ∧ l.b < n ∧ l.a ≠ l.b) {c : Int} (h0 : 0 ≤ c) (h1 : c < n) : gA (gPut f l) c = if c = l.a ∨ c = l.b then min (gA f l.a) (gA f l.b) else gA f c := by
  unfold gPut
  simp only [gA, List.getD_eq_getElem?_getD, List.getElem?_set]
  grind
theorem gPut_len {f : List Int} {l : Lk} : (gPut f l).length = f.length := by simp [gPut]
theorem gStep_len {ls : List Lk} {f : List Int} {k : Int} : (gStep ls f k).length = f.length := by
  unfold gStep
  split
  · exact gPut_len
  · rfl
theorem turnF_len {ls : List Lk} : ∀ {ns f}, (turnF ls ns f).length = f.length
  | [], f => rfl
  | k :: ns, f => by
    show (turnF ls ns (gStep ls f k)).length = _
    rw [turnF_len, gStep_len]
theorem turnsF_len {ls : List Lk} {ns : List Int} : ∀ {t f}, (turnsF ls ns t f).length = f.length
  | 0, f => rfl
  | t + 1, f => by rw [turnsF, turnsF_len, turnF_len]
structure GOk (n : Nat) (ls : List Lk) (ns : List Int) (f : List Int) : Prop where
  len : f.length = n
  jn : ∀ c : Int, 0 ≤ c → c < n → Jn ls ns c (gA f c)
  rg : ∀ c : Int, 0 ≤ c → c < n → 0 ≤ gA f c ∧ gA f c < n
theorem GOk.step {n : Nat} {ls : List Lk} {ns : List Int} {f : List Int} {k : Int} (hls : LsOk n ls) (h : GOk n ls ns f) (hk : k ∈ ns) : GOk n ls ns (gStep ls f k) := by
  unfold gStep
  cases e : getI ls k with
  | none => exact h
  | some l =>
    have hl := hls l (getI_mem e)
    have ad : Adj ls ns l.a l.b := ⟨k, hk, l, e, .inl ⟨rfl, rfl⟩⟩
    refine ⟨by rw [gPut_len]; exact h.len, fun c h0 h1 => ?_, fun c h0 h1 => ?_⟩
    · rw [gPut_at h.len hl h0 h1]
      split
      · rename_i hc
        have ja := h.jn l.a hl.1 hl.2.1
        have jb := h.jn l.b hl.2.2.1 hl.2.2.2.1
        rcases (by omega : min (gA f l.a) (gA f l.b) = gA f l.a ∨ min (gA f l.a) (gA f l.b) = gA f l.b) with q | q <;> rw [q] <;> rcases hc with rfl | rfl
        · exact ja
        · exact (Rt.one (Adj.symm _ _ ad)).trans ja
        · exact (Rt.one ad).trans jb
        · exact jb
      · exact h.jn c h0 h1
    · rw [gPut_at h.len hl h0 h1]
      have ja := h.rg l.a hl.1 hl.2.1
      have jb := h.rg l.b hl.2.2.1 hl.2.2.2.1
      split
      · omega
      · exact h.rg c h0 h1
theorem gStep_le {n : Nat} {ls : List Lk} {f : List Int} {k : Int} (hls : LsOk n ls) (hf : f.length = n) {c : Int} (h0 : 0 ≤ c) (h1 : c < n) : gA (gStep ls f k) c ≤ gA f c := by
  unfold gStep
  cases e : getI ls k with
  | none => exact Int.le_refl _
  | some l =>
    have hl := hls l (getI_mem e)
    show gA (gPut f l) c ≤ _
    rw [gPut_at hf hl h0 h1]
    split
    · rename_i hc
      rcases hc with rfl | rfl <;> omega
    · omega
theorem turn_ok {n : Nat} {ls : List Lk} {ns : List Int} (hls : LsOk n ls) : ∀ {ms f}, GOk n ls ns f → (∀ k ∈ ms, k ∈ ns) → GOk n ls ns (turnF ls ms f)
  | [], f, h, _ => h
  | k :: ms, f, h, hm => by
    show GOk n ls ns (turnF ls ms (gStep ls f k))
    exact turn_ok hls (h.step hls (hm k (List.mem_cons_self ..))) fun j hj => hm j (List.mem_cons_of_mem _ hj)
theorem turn_le {n : Nat} {ls : List Lk} (hls : LsOk n ls) {c : Int} (h0 : 0 ≤ c) (h1 : c < n) : ∀ {ms f}, f.length = n → gA (turnF ls ms f) c ≤ gA f c
  | [], f, _ => Int.le_refl _
  | k :: ms, f, hf => by
    show gA (turnF ls ms (gStep ls f k)) c ≤ _
    exact Int.le_trans (turn_le hls h0 h1 (by rw [gStep_len]; exact hf)) (gStep_le hls hf h0 h1)
theorem turn_adj {n : Nat} {ls : List Lk} (hls : LsOk n ls) {c d k : Int} {l : Lk} (e : getI ls k = some l) (hcd : (l.a = c ∧ l.b = d) ∨ (l.b = c ∧ l.a = d)) : ∀ {ms f}, f.length = n → k ∈ ms → gA (turnF ls ms f) c ≤ gA f d
  | [], f, _, h => by cases h
  | j :: ms, f, hf, h => by
    have hl := hls l (getI_mem e)
    have hc : 0 ≤ c ∧ c < n := by grind
    have hd : 0 ≤ d ∧ d < n := by grind
    show gA (turnF ls ms (gStep ls f j)) c ≤ _
    by_cases hm : k ∈ ms
    · exact Int.le_trans (turn_adj hls e hcd (by rw [gStep_len]; exact hf) hm) (gStep_le hls hf hd.1 hd.2)
    · have hj : k = j := by grind
      subst hj
      refine Int.le_trans (turn_le hls hc.1 hc.2 (by rw [gStep_len]; exact hf)) ?_
      unfold gStep
      rw [e]
      show gA (gPut f l) c ≤ _
      rw [gPut_at hf hl hc.1 hc.2, if_pos (by grind)]
      grind
theorem turns_ok {n : Nat} {ls : List Lk} {ns : List Int} (hls : LsOk n ls) : ∀ {t f}, GOk n ls ns f → GOk n ls ns (turnsF ls ns t f)
  | 0, f, h => h
  | t + 1, f, h => by
    rw [turnsF]
    exact turns_ok hls (turn_ok hls h fun _ z => z)
theorem turns_succ {ls : List Lk} {ns : List Int} : ∀ {t f}, turnsF ls ns (t + 1) f = turnF ls ns (turnsF ls ns t f)
  | 0, f => rfl
  | t + 1, f => by
    rw [turnsF, turns_succ]
    rfl
theorem range_at {n : Nat} {c : Int} (h0 : 0 ≤ c) (h1 : c < n) : gA (rangeI n) c = c := by
  unfold gA rangeI
  rw [List.getD_eq_getElem?_getD, List.getElem?_map, List.getElem?_range (by omega)]
  simp
  omega
theorem range_len {n : Nat} : (rangeI n).length = n := by simp [rangeI]
theorem range_ok {n : Nat} {ls : List Lk} {ns : List Int} : GOk n ls ns (rangeI n) := ⟨range_len, fun c h0 h1 => by rw [range_at h0 h1]; exact .refl _, fun c h0 h1 => by rw [range_at h0 h1]; exact ⟨h0, h1⟩⟩
theorem turns_trail {n : Nat} {ls : List Lk} {ns : List Int} (hls : LsOk n ls) {v : Int} : ∀ {p : List Int} {c : Int} {m m' : List Int} {t : Nat}, trailF ls p (c, m) = some (v, m') → (∀ k ∈ p, k ∈ ns) → 0 ≤ c → c < n → p.length ≤ t → gA (turnsF ls ns t (rangeI n)) c ≤ v
  | [], c, m, m', t, h, hp, h0, h1, ht => by
    simp only [trailF, Option.some.injEq, Prod.mk.injEq] at h
    obtain ⟨rfl, _⟩ := h
    have := fun t => (turns_ok (t := t) (ns := ns) hls (range_ok (n := n))).len
    clear ht
    induction t with
    | zero => rw [turnsF, range_at h0 h1]; exact Int.le_refl _
    | succ t ih =>
      rw [turns_succ]
      exact Int.le_trans (turn_le hls h0 h1 (this t)) ih
  | k :: r, c, m, m', t, h, hp, h0, h1, ht => by
    simp only [trailF] at h
    cases e : getI ls k with
    | none => simp [e] at h
    | some l =>
      simp only [e] at h
      split at h
      · rename_i hh
        obtain ⟨t, rfl⟩ : ∃ t', t = t' + 1 := ⟨t - 1, by simp at ht; omega⟩
        have hl := hls l (getI_mem e)
        have hh1 := hh.1
        unfold Lk.has at hh1
        rw [turns_succ]
        have := (turns_ok (t := t) (ns := ns) hls (range_ok (n := n))).len
        refine Int.le_trans (turn_adj (d := if c = l.a then l.b else l.a) hls e (by grind) this (hp k (List.mem_cons_self ..))) ?_
        exact turns_trail hls h (fun j hj => hp j (List.mem_cons_of_mem _ hj)) (by grind) (by grind) (by simp at ht; omega)
      · cases h
theorem trail_len {ls : List Lk} : ∀ {p : List Int} {c v : Int} {m m' : List Int}, trailF ls p (c, m) = some (v, m') → m.Nodup → m'.Nodup ∧ m'.length = m.length + p.length
  | [], c, v, m, m', h, nd => by
    simp only [trailF, Option.some.injEq, Prod.mk.injEq] at h
    obtain ⟨_, rfl⟩ := h
    exact ⟨nd, by simp⟩
  | k :: r, c, v, m, m', h, nd => by
    simp only [trailF] at h
    cases e : getI ls k with
    | none => simp [e] at h
    | some l =>
      simp only [e] at h
      split at h
      · rename_i hh
        obtain ⟨h1, h2⟩ := trail_len h (by rw [List.nodup_append]; refine ⟨nd, by simp, ?_⟩; simp only [List.mem_singleton]; rintro a ha b rfl rfl; exact hh.2 ha)
        refine ⟨h1, ?_⟩
        rw [h2]
        simp
        omega
      · cases h
theorem groups_len {n : Nat} {ls : List Lk} {ns : List Int} : (groupsF n ls ns).length = n := by rw [groupsF, turnsF_len, range_len]
theorem groups_jn {n : Nat} {ls : List Lk} {ns : List Int} (hls : LsOk n ls) {c : Int} (h0 : 0 ≤ c) (h1 : c < n) : Jn ls ns c (gA (groupsF n ls ns) c) ∧ 0 ≤ gA (groupsF n ls ns) c ∧ gA (groupsF n ls ns) c < n := by
  have := turns_ok (t := n) (ns := ns) hls (range_ok (n := n))
  exact ⟨this.jn c h0 h1, this.rg c h0 h1⟩
theorem groups_le {n : Nat} {ls : List Lk} {ns : List Int} (hls : LsOk n ls) (hn : n ≤ 6) {c v : Int} (h0 : 0 ≤ c) (h1 : c < n) (j : Jn ls ns c v) : gA (groupsF n ls ns) c ≤ v := by
  obtain ⟨b, s, e⟩ := way_done (ns := ns) hls hn h0 h1
  cases e2 : wayF ls ns c v with
  | none => exact absurd j ((way_none hls hn h0 h1).mp e2)
  | some p =>
    unfold wayF at e2
    have o := b.ok _ (wGet_some e2)
    obtain ⟨m, h2, h3, h4⟩ := o.tr
    obtain ⟨h5, h6⟩ := trail_len h2 List.nodup_nil
    have h7 := nodup_le (n := n) h5 fun x hx => b.rg x (h4 x hx)
    have h8 : m.length = p.length := by simpa using h6
    exact turns_trail hls h2 o.inn h0 h1 (show p.length ≤ n by omega)
theorem groups_eq {n : Nat} {ls : List Lk} {ns : List Int} (hls : LsOk n ls) (hn : n ≤ 6) {c d : Int} (h0 : 0 ≤ c) (h1 : c < n) (k0 : 0 ≤ d) (k1 : d < n) : gA (groupsF n ls ns) c = gA (groupsF n ls ns) d ↔ Jn ls ns c d := by
  obtain ⟨jc, rc⟩ := groups_jn (ns := ns) hls h0 h1
  obtain ⟨jd, rd⟩ := groups_jn (ns := ns) hls k0 k1
  constructor
  · intro h
    rw [h] at jc
    exact jc.trans (jd.symm Adj.symm)
  · intro h
    have a := groups_le hls hn h0 h1 (h.trans jd)
    have b := groups_le hls hn k0 k1 ((h.symm Adj.symm).trans jc)
    omega
theorem groups_same {n : Nat} {ls : List Lk} {ns ms : List Int} (hls : LsOk n ls) (hn : n ≤ 6) (h : ∀ c d, Jn ls ns c d ↔ Jn ls ms c d) : groupsF n ls ns = groupsF n ls ms := by
  refine List.ext_getElem (by rw [groups_len, groups_len]) fun i h1 h2 => ?_
  rw [groups_len] at h1
  have a := groups_jn (ns := ns) (c := (i : Int)) hls (by omega) (by omega)
  have b := groups_jn (ns := ms) (c := (i : Int)) hls (by omega) (by omega)
  have c := groups_le (ns := ns) (c := (i : Int)) hls hn (by omega) (by omega) ((h _ _).mpr b.1)
  have d := groups_le (ns := ms) (c := (i : Int)) hls hn (by omega) (by omega) ((h _ _).mp a.1)
  have e : gA (groupsF n ls ns) (i : Int) = gA (groupsF n ls ms) (i : Int) := by omega
  simp only [gA, List.getD_eq_getElem?_getD, Int.toNat_natCast] at e
  rw [List.getElem?_eq_getElem (by rw [groups_len]; exact h1), List.getElem?_eq_getElem (by rw [groups_len]; exact h1)] at e
  simpa using e
end Mg

/-! Webs: plain data and promises of the draws. -/
namespace Dg
open PySem PySem.Spec L2
open Mg (Lk)
@[reducible] def P2 (p : Int × Int) : D := .tup [.int p.1, .int p.2]
@[reducible] def _root_.Mg.Lk.d (l : Lk) : D := .tup [.int l.a, .int l.x, .int l.b, .int l.y]
def _root_.Mg.Lk.e1 (l : Lk) : Int × Int := (l.a, l.x)
def _root_.Mg.Lk.e2 (l : Lk) : Int × Int := (l.b, l.y)
def endsL (ls : List Lk) : List (Int × Int) := ls.flatMap fun l => [l.e1, l.e2]
@[reducible] def webD (n : Int) (ls : List Lk) : D := .tup [.int n, .tup (ls.map Mg.Lk.d)]
structure LkOk (n : Int) (l : Lk) : Prop where
  ne : l.a ≠ l.b
  a0 : 0 ≤ l.a
  an : l.a < n
  b0 : 0 ≤ l.b
  bn : l.b < n
  x0 : 0 ≤ l.x
  x4 : l.x < 4
  y0 : 0 ≤ l.y
  y4 : l.y < 4
structure WebOk (n : Int) (ls : List Lk) : Prop where
  n1 : 1 ≤ n
  n6 : n ≤ 6
  len : ls.length ≤ 10
  ok : ∀ l ∈ ls, LkOk n l
  nd : (endsL ls).Nodup
  free : ∃ b, 0 ≤ b ∧ b < n ∧ (b, (3 : Int)) ∉ endsL ls
/-- no box has two links to lesser ones -/
def Forest (ls : List Lk) : Prop := (ls.map fun l => max l.a l.b).Nodup
def freeD (us : List (Int × Int)) (b : Int) : List Int := [0, 1, 2, 3].filter fun d => decide ((b, d) ∉ us)
theorem P2_inj {p q : Int × Int} (h : P2 p = P2 q) : p = q := by
  obtain ⟨a, b⟩ := p
  obtain ⟨c, d⟩ := q
  simp only [P2, D.tup.injEq, List.cons.injEq, D.int.injEq, and_true] at h
  rw [h.1, h.2]
theorem mem_P2 {p : Int × Int} {ps : List (Int × Int)} : P2 p ∈ ps.map P2 ↔ p ∈ ps := by
  constructor
  · intro h
    obtain ⟨q, h1, h2⟩ := List.mem_map.mp h
    rw [← P2_inj h2]
    exact h1
  · exact fun h => List.mem_map_of_mem h
theorem pl_P2 (p : Int × Int) {n : Nat} : pl (n + 2) (P2 p) = true := rfl
theorem all_P2 (ps : List (Int × Int)) {n : Nat} : (ps.map P2).all (pl (n + 2)) = true := by
  induction ps with
  | nil => rfl
  | cons p ps ih => rw [List.map_cons, List.all_cons, ih]; rfl
theorem all_int (ns : List Int) {n : Nat} : (ns.map D.int).all (pl (n + 1)) = true := by
  induction ns with
  | nil => rfl
  | cons p ps ih => rw [List.map_cons, List.all_cons, ih]; rfl
theorem map_int_inj {a b : List Int} (h : a.map D.int = b.map D.int) : a = b := by
  induction a generalizing b with
  | nil => cases b with
    | nil => rfl
    | cons y b => cases h
  | cons x a ih => cases b with
    | nil => cases h
    | cons y b =>
      rw [List.map_cons, List.map_cons, List.cons.injEq, D.int.injEq] at h
      rw [h.1, ih h.2]
/-! ### promises -/
def sp_L_free (K : PySem.W.Frag) : DSp := fun ds G Q => ∃ x us b, ds = [x, .int b] ∧ lstOf G x = some (us.map P2) ∧ us.length ≤ 1000 ∧ Q (.lst ((freeD us b).map D.int)) G
def sp_L_link (K : PySem.W.Frag) : DSp := fun ds G Q => ∃ r u us a b, ds = [.ref r, .ref u, .int a, .int b] ∧ G r = some (gRow K) ∧ G u = some (.sm (.lst (us.map P2))) ∧ us.length ≤ 500 ∧ (freeD us a = [] ∨ freeD us b = [] → Q .non G) ∧
  ∀ x y l, x ∈ freeD us a → y ∈ freeD us b → (l = Mg.Lk.mk a x b y ∨ l = Mg.Lk.mk b y a x) → Q l.d (ud G u (.sm (.lst ((us ++ [(a, x), (b, y)]).map P2))))
def sp_L_web (K : PySem.W.Frag) : DSp := fun ds G Q => ∃ r R, ds = [.ref r, .int R] ∧ G r = some (gRow K) ∧ 0 ≤ R ∧ R ≤ 6 ∧ ∀ n ls, WebOk n ls → (R = 0 → Forest ls) → Q (webD n ls) G
theorem w_free {K : PySem.W.Frag} {G : Gp} {Q : DK} {x : D} {us : List (Int × Int)} {b : Int} (hx : lstOf G x = some (us.map P2)) (hl : us.length ≤ 1000) (q : Q (.lst ((freeD us b).map D.int)) G) : sp_L_free K [x, .int b] G Q := ⟨x, us, b, rfl, hx, hl, q⟩
theorem freeD_nil {us : List (Int × Int)} {b : Int} : (D.lst ((freeD us b).map D.int) = .lst []) ↔ freeD us b = [] := by
  rw [D.lst.injEq, List.map_eq_nil_iff]
theorem map_at {ns : List Int} {i : Int} (h0 : 0 ≤ i) (h1 : i < ns.length) : atI (ns.map D.int) i = some (.int (ns[i.toNat]'(by omega))) := by
  rw [atI_pos h0 (by rw [List.length_map]; exact h1), List.getElem?_map, List.getElem?_eq_getElem (by omega)]
  rfl
theorem freeD_len {us : List (Int × Int)} {b : Int} : (freeD us b).length ≤ 4 := by
  have := List.length_filter_le (fun d => decide ((b, d) ∉ us)) [0, 1, 2, 3]
  exact this
theorem mem_freeD {us : List (Int × Int)} {b d : Int} : d ∈ freeD us b ↔ (0 ≤ d ∧ d < 4) ∧ (b, d) ∉ us := by
  unfold freeD
  rw [List.mem_filter]
  simp only [List.mem_cons, List.not_mem_nil, or_false, decide_eq_true_eq]
  grind
theorem len_L_taken {K : PySem.W.Frag} : ∀ ds G Q, sp_L_taken K ds G Q → ds.length = 2 := by rintro _ _ _ ⟨r, m, rfl, _⟩; rfl
theorem len_L_free {K : PySem.W.Frag} : ∀ ds G Q, sp_L_free K ds G Q → ds.length = 2 := by rintro _ _ _ ⟨r, m, b, rfl, _⟩; rfl
theorem len_L_link {K : PySem.W.Frag} : ∀ ds G Q, sp_L_link K ds G Q → ds.length = 4 := by rintro _ _ _ ⟨r, u, us, a, b, rfl, _⟩; rfl
theorem len_L_web {K : PySem.W.Frag} : ∀ ds G Q, sp_L_web K ds G Q → ds.length = 2 := by rintro _ _ _ ⟨r, m, rfl, _⟩; rfl
end Dg

/-! Webs: promises. -/
namespace Dg
open PySem PySem.Spec L2
open Mg (Lk)
@[reducible] def lsD (ls : List Lk) : D := .tup (ls.map Lk.d)
@[reducible] def intsD (ns : List Int) : List D := ns.map D.int
def NsOk (ls : List Lk) (ns : List Int) : Prop := ns.length ≤ 10 ∧ ∀ k ∈ ns, 0 ≤ k ∧ k < ls.length
def wayD : Option (List Int) → D
  | none => .non
  | some p => .lst (p.map D.int)
def trStep (ls : List Lk) (st : List Int × Option (List Int)) (k : Nat) : List Int × Option (List Int) := match Mg.getI ls (k : Int) with
  | none => st
  | some l => match Mg.wayF ls st.1 l.a l.b with
    | none => (st.1 ++ [(k : Int)], st.2)
    | some w => (st.1, match st.2 with
      | none => some (w ++ [(k : Int)])
      | some f => some f)
def trF (ls : List Lk) (k : Nat) : List Int × Option (List Int) := (List.range k).foldl (trStep ls) ([], none)
def takenF (ls : List Lk) : List Int := (trF ls ls.length).1
def ringF (ls : List Lk) : Option (List Int) := (trF ls ls.length).2
def subF (ls : List Lk) (ns : List Int) : List Lk := ns.filterMap (Mg.getI ls)
def sp_is_door (K : PySem.W.Frag) : DSp := fun ds G Q => ∃ n b d, ds = [.int n, .int b, .int d] ∧ Q (.bl (decide ((0 ≤ b ∧ b < n) ∧ 0 ≤ d ∧ d < 4))) G
def sp_need_web (K : PySem.W.Frag) : DSp := fun ds G Q => ∃ n ls, ds = [webD n ls] ∧ WebOk n ls ∧ Q .non G
def sp_next_ones (K : PySem.W.Frag) : DSp := fun ds G Q => ∃ ls x ns b, ds = [lsD ls, x, .int b] ∧ lstOf G x = some (ns.map D.int) ∧ NsOk ls ns ∧ Q (.lst ((Mg.nextF ls ns b).map P2)) G
def sp_way_by (K : PySem.W.Frag) : DSp := fun ds G Q => ∃ (n : Nat) (ls : List Lk) (x : D) (ns : List Int) (u v : Int), ds = [lsD ls, x, .int u, .int v] ∧ lstOf G x = some (ns.map D.int) ∧ NsOk ls ns ∧ Mg.LsOk n ls ∧ n ≤ 6 ∧ 0 ≤ u ∧ u < n ∧ Q (wayD (Mg.wayF ls ns u v)) G
def sp_taken_and_ring (K : PySem.W.Frag) : DSp := fun ds G Q => ∃ n ls, ds = [webD n ls] ∧ WebOk n ls ∧ ∀ p, G p = none → (ringF ls = none → Q (.tup [.ref p, .non]) (ud G p (.sm (.lst (intsD (takenF ls)))))) ∧
  ∀ f, ringF ls = some f → ∀ q, G q = none → q ≠ p → Q (.tup [.ref p, .ref q]) (ud (ud G p (.sm (.lst (intsD (takenF ls))))) q (.sm (.lst (intsD f))))
def sp_ring (K : PySem.W.Frag) : DSp := fun ds G Q => ∃ n ls, ds = [webD n ls] ∧ WebOk n ls ∧ (ringF ls = none → Q .non G) ∧ ∀ f, ringF ls = some f → ∀ q, G q = none → Q (.ref q) (ud G q (.sm (.lst (intsD f))))
def sp_enough (K : PySem.W.Frag) : DSp := fun ds G Q => ∃ n ls, ds = [webD n ls] ∧ WebOk n ls ∧ ∀ p, G p = none → Q (.ref p) (ud G p (.sm (.lst (intsD (takenF ls)))))
def sp_without (K : PySem.W.Frag) : DSp := fun ds G Q => ∃ n ls, ds = [webD n ls] ∧ WebOk n ls ∧ Q (webD n (subF ls (takenF ls))) G
theorem len_is_door {K : PySem.W.Frag} : ∀ ds G Q, sp_is_door K ds G Q → ds.length = 3 := by rintro _ _ _ ⟨_, _, _, rfl, _⟩; rfl
theorem len_need_web {K : PySem.W.Frag} : ∀ ds G Q, sp_need_web K ds G Q → ds.length = 1 := by rintro _ _ _ ⟨_, _, rfl, _⟩; rfl
theorem len_next_ones {K : PySem.W.Frag} : ∀ ds G Q, sp_next_ones K ds G Q → ds.length = 3 := by rintro _ _ _ ⟨_, _, _, _, rfl, _⟩; rfl
theorem len_way_by {K : PySem.W.Frag} : ∀ ds G Q, sp_way_by K ds G Q → ds.length = 4 := by rintro _ _ _ ⟨_, _, _, _, _, _, rfl, _⟩; rfl
theorem len_taken_and_ring {K : PySem.W.Frag} : ∀ ds G Q, sp_taken_and_ring K ds G Q → ds.length = 1 := by rintro _ _ _ ⟨_, _, rfl, _⟩; rfl
theorem len_ring {K : PySem.W.Frag} : ∀ ds G Q, sp_ring K ds G Q → ds.length = 1 := by rintro _ _ _ ⟨_, _, rfl, _⟩; rfl
theorem len_enough {K : PySem.W.Frag} : ∀ ds G Q, sp_enough K ds G Q → ds.length = 1 := by rintro _ _ _ ⟨_, _, rfl, _⟩; rfl
theorem len_without {K : PySem.W.Frag} : ∀ ds G Q, sp_without K ds G Q → ds.length = 1 := by rintro _ _ _ ⟨_, _, rfl, _⟩; rfl
/-! ### data read through lists -/
def mapO (f : D → Option D) : List D → Option (List D)
  | [] => some []
  | d :: ds => (match f d, mapO f ds with
    | some x, some xs => some (x :: xs)
    | _, _ => none)
def dv : Nat → Gp → D → Option D
  | 0, _, _ => none
  | n + 1, G, .tup ds => (if ds.length ≤ 10000 then mapO (dv n G) ds else none).map D.tup
  | n + 1, G, .lst ds => (if ds.length ≤ 10000 then mapO (dv n G) ds else none).map D.lst
  | n + 1, G, .ref p => (match lstG (G p) with
    | some ds => (if ds.length ≤ 10000 then mapO (dv n G) ds else none).map D.lst
    | none => none)
  | _ + 1, _, d => some d
@[reducible] def dvs (n : Nat) (G : Gp) (ds : List D) : Option (List D) := if ds.length ≤ 10000 then mapO (dv n G) ds else none
/-- both the same data -/
def sp_L_alike (n : Nat) : DSp := fun ds G Q => ∃ x y d e, ds = [x, y] ∧ dv n G x = some d ∧ dv n G y = some e ∧ ∀ b : Bool, (b = true ↔ d = e) → Q (.bl b) G
def sp_L_groups (K : PySem.W.Frag) : DSp := fun ds G Q => ∃ (n : Nat) (ls : List Lk) (x : D) (ns : List Int), ds = [webD n ls, x] ∧ lstOf G x = some (ns.map D.int) ∧ NsOk ls ns ∧ WebOk n ls ∧ Q (.lst (intsD (Mg.groupsF n ls ns))) G
def roundF (ls : List Lk) (rs : List Int) (u : Int) : Bool := match Mg.trailF ls rs (u, []) with
  | some (c, _) => decide (c = u)
  | none => false
def sp_L_goes_round (K : PySem.W.Frag) : DSp := fun ds G Q => ∃ (n : Int) (ls : List Lk) (x : D) (rs : List Int) (u : Int), ds = [webD n ls, x, .int u] ∧ lstOf G x = some (rs.map D.int) ∧ rs.length ≤ 20 ∧ (∀ k ∈ rs, 0 ≤ k ∧ k < ls.length) ∧ ls.length ≤ 10 ∧ Q (.bl (roundF ls rs u)) G
structure IsRing (n : Int) (ls : List Lk) (rs : List Int) : Prop where
  two : 2 ≤ rs.length
  most : rs.length ≤ 20
  nd : rs.Nodup
  rg : ∀ k ∈ rs, 0 ≤ k ∧ k < ls.length
  rd : ∃ u, 0 ≤ u ∧ u < n ∧ roundF ls rs u = true
def sp_L_is_ring (K : PySem.W.Frag) : DSp := fun ds G Q => ∃ (n : Int) (ls : List Lk) (x : D) (rs : List Int), ds = [webD n ls, x] ∧ lstOf G x = some (rs.map D.int) ∧ 1 ≤ n ∧ n ≤ 6 ∧ ls.length ≤ 10 ∧ IsRing n ls rs ∧ Q (.bl true) G
theorem len_L_alike {n : Nat} : ∀ ds G Q, sp_L_alike n ds G Q → ds.length = 2 := by rintro _ _ _ ⟨_, _, _, _, rfl, _⟩; rfl
theorem len_L_groups {K : PySem.W.Frag} : ∀ ds G Q, sp_L_groups K ds G Q → ds.length = 2 := by rintro _ _ _ ⟨_, _, _, _, rfl, _⟩; rfl
theorem len_L_goes_round {K : PySem.W.Frag} : ∀ ds G Q, sp_L_goes_round K ds G Q → ds.length = 3 := by rintro _ _ _ ⟨_, _, _, _, _, rfl, _⟩; rfl
theorem len_L_is_ring {K : PySem.W.Frag} : ∀ ds G Q, sp_L_is_ring K ds G Q → ds.length = 2 := by rintro _ _ _ ⟨_, _, _, _, rfl, _⟩; rfl
end Dg

namespace Dg
open PySem PySem.Spec L2
/-- the law's own promise -/
def sp_law (K : PySem.W.Frag) : DSp := fun ds G Q => ∃ sc ns, ds = [.ref sc] ∧ ScrAt K G sc ns ∧ ∀ G', Q (.bl true) G'
theorem len_law {K : PySem.W.Frag} : ∀ ds G Q, sp_law K ds G Q → ds.length = 1 := by rintro _ _ _ ⟨_, _, rfl, _⟩; rfl
theorem law_start {K : PySem.W.Frag} {H : Hp} {a : Addr} {ns : List Int} (ho : Only H) (hs : SqL K H a (ns.map V.int)) (E : XK) : lSp (sp_law K) [.ref a] H (fun v _ => v = .bl true) E := by
  have fin : Kc (fun _ => False) H (fun v _ => v = V.bl true) (fun d _ => d = D.bl true) := fun v H' F' d G' e g i q => by
    subst q
    exact is_bl.mp i
  rcases hs with hs | hs
  · have hf : ∃ o, H a = some (.frz o (.lst (ns.map V.int))) := by
      rcases hs with hs | hs
      · rcases ho a with z | ⟨o, xs, z⟩
        · rw [z] at hs
          cases hs
        · rw [z] at hs
          cases hs
      · exact hs
    obtain ⟨o, hf⟩ := hf
    refine ⟨fun _ => False, [.ref a], fun b => if b = a then some (.sm (.scr ns)) else none, fun d _ => d = .bl true, IsL.cons (is_ref.mpr rfl) IsL.nil, ⟨fun _ z => z.elim, fun b => if b = a then some (.scr ns) else none, id, ?_, ?_⟩, ⟨a, ns, rfl, .inl (if_pos rfl), fun _ => rfl⟩, fin⟩
    · intro b x e
      dsimp only at e
      by_cases hb : b = a
      · rw [if_pos hb] at e
        cases e
        subst hb
        exact ⟨fun z => z, _, hf, .inr ⟨o, rfl⟩⟩
      · rw [if_neg hb] at e
        cases e
    · intro b x e
      dsimp only at e
      by_cases hb : b = a
      · rw [if_pos hb] at e
        cases e
        exact ⟨rfl, if_pos hb⟩
      · rw [if_neg hb] at e
        cases e
  · refine ⟨fun _ => False, [.ref a], fun _ => none, fun d _ => d = .bl true, IsL.cons (is_ref.mpr rfl) IsL.nil, ⟨fun _ z => z.elim, fun _ => none, id, ?_, ?_⟩, ⟨a, ns, rfl, .inr hs, fun _ => rfl⟩, fin⟩
    · intro b x e
      cases e
    · intro b x e
      cases e
end Dg

/-! Webs that are none: plain data, promises. -/
namespace Dg
open PySem PySem.Spec L2
open Mg (Lk)
abbrev cA (K : PySem.W.Frag) (x : Str) : Addr := He.ga K x
def doorB (n b d : Int) : Bool := decide ((0 ≤ b ∧ b < n) ∧ 0 ≤ d ∧ d < 4)
def lkBad (n : Int) (i : Nat) (met : List (Int × Int)) (l : Lk) : Bool := !(decide (i < 10) && decide (l.a ≠ l.b) && doorB n l.a l.x && doorB n l.b l.y) || decide (l.e1 ∈ met) || decide (l.e2 ∈ met)
def badAt (n : Int) (ls : List Lk) (i : Nat) : Bool := match ls[i]? with
  | some l => lkBad n i (endsL (ls.take i)) l
  | none => false
/-- the number of the first bad link; -1: the count of boxes -/
def badF (n : Int) (ls : List Lk) : Option Int := if 1 ≤ n ∧ n ≤ 6 then ((List.range ls.length).find? (badAt n ls)).map fun (i : Nat) => (i : Int) else some (-1)
theorem find_range {p : Nat → Bool} : ∀ {n i : Nat}, i < n → (∀ j, j < i → p j = false) → p i = true → (List.range n).find? p = some i
  | n, i, hi, h1, h2 => by
    have e : List.range n = List.range i ++ (List.range (n - i)).map (i + ·) := by
      have := List.range_add (n := i) (m := n - i)
      rwa [Nat.add_sub_cancel' (Nat.le_of_lt hi)] at this
    rw [e, List.find?_append]
    have h3 : (List.range i).find? p = none := by
      rw [List.find?_eq_none]
      intro j hj
      rw [h1 j (List.mem_range.mp hj)]
      exact Bool.false_ne_true
    rw [h3, Option.none_or]
    obtain ⟨m, hm⟩ : ∃ m, n - i = m + 1 := ⟨n - i - 1, by omega⟩
    rw [hm, List.range_succ_eq_map, List.map_cons, List.find?_cons, Nat.add_zero, h2]
theorem find_none {p : Nat → Bool} {n : Nat} (h : ∀ j, j < n → p j = false) : (List.range n).find? p = none := by
  rw [List.find?_eq_none]
  intro j hj
  rw [h j (List.mem_range.mp hj)]
  exact Bool.false_ne_true
theorem badF_at {n : Int} {ls : List Lk} {i : Nat} (hn : 1 ≤ n ∧ n ≤ 6) (hi : i < ls.length) (h1 : ∀ j, j < i → badAt n ls j = false) (h2 : badAt n ls i = true) : badF n ls = some (i : Int) := by
  unfold badF
  rw [if_pos hn, find_range hi h1 h2]
  rfl
theorem badF_no {n : Int} {ls : List Lk} (hn : 1 ≤ n ∧ n ≤ 6) (h1 : ∀ j, j < ls.length → badAt n ls j = false) : badF n ls = none := by
  unfold badF
  rw [if_pos hn, find_none h1]
  rfl
theorem badF_n {n : Int} {ls : List Lk} (hn : ¬ (1 ≤ n ∧ n ≤ 6)) : badF n ls = some (-1) := by
  unfold badF
  rw [if_neg hn]
theorem badAt_eq {n : Int} {ls : List Lk} {i : Nat} (hi : i < ls.length) : badAt n ls i = lkBad n i (endsL (ls.take i)) ls[i] := by
  unfold badAt
  rw [List.getElem?_eq_getElem hi]
/-! ### promises -/
def spx_need_web (K : PySem.W.Frag) : DSpX := fun ds G Q E' => ∃ n ls, ds = [webD n ls] ∧ ls.length ≤ 20 ∧ (badF n ls = none → Q .non G) ∧ ∀ k, badF n ls = some k → ∀ d, G d = none → E' (cA K "BadWeb") (some d) (xdG G d "number" k)
def sp_need_web1 (K : PySem.W.Frag) : DSp := fun ds G Q => ∃ n ls, ds = [webD n ls] ∧ ls.length ≤ 20 ∧ badF n ls = none ∧ Q .non G
/-- a web that is none is refused -/
def spBad (K : PySem.W.Frag) : DSpX := fun ds G Q E' => ∃ n ls k, ds = [webD n ls] ∧ ls.length ≤ 20 ∧ badF n ls = some k ∧ ∀ d, G d = none → E' (cA K "BadWeb") (some d) (xdG G d "number" k)
abbrev spx_ring (K : PySem.W.Frag) : DSpX := spBad K
abbrev spx_enough (K : PySem.W.Frag) : DSpX := spBad K
abbrev spx_without (K : PySem.W.Frag) : DSpX := spBad K
def spx_N_init (K : PySem.W.Frag) : DSpX := fun ds G Q E' => ∃ x n ls k a r y, ds = [x, webD n ls, a, r, y] ∧ ls.length ≤ 20 ∧ badF n ls = some k ∧ ∀ d, G d = none → E' (cA K "BadWeb") (some d) (xdG G d "number" k)
def dueD : Option Int → D
  | none => .non
  | some k => .int k
def sp_L_bad (K : PySem.W.Frag) : DSp := fun ds G Q => ∃ n ls, ds = [webD n ls] ∧ ls.length ≤ 20 ∧ Q (dueD (badF n ls)) G
def sp_L_spoilt (K : PySem.W.Frag) : DSp := fun ds G Q => ∃ r n ls, ds = [.ref r, webD n ls] ∧ G r = some (gRow K) ∧ ls.length ≤ 12 ∧ ∀ n' ls', ls'.length ≤ max 11 (ls.length + 1) → Q (webD n' ls') G
/-- what the lambdas do: all refuse -/
def LS (K : PySem.W.Frag) : LamR → List D → Gp → Out → Prop := fun L ds _ o => ∃ i cl n ls k, i < 5 ∧ L = lmR i cl ∧ cl.map (·.1) = [("_law_web_here" : Str)] ∧ ds = [webD n ls] ∧ ls.length ≤ 20 ∧ badF n ls = some k ∧ o = some (cA K "BadWeb", some k)
def sp_L_word (K : PySem.W.Frag) : DSp := fun ds G Q => ∃ f L cs g k, ds = [.ref f] ∧ G f = some (.sm (.fn L (some cs))) ∧ G (tW K) = some (.sm (.tab qW g)) ∧ LS K L cs G (some (cA K "BadWeb", some k)) ∧ Q (.tup [.str "web", .int k]) G
/-- all but functions of which nothing is told -/
def SubN (G G' : Gp) : Prop := ∀ a x, G a = some x → (∀ L, x ≠ .sm (.fn L none)) → G' a = some x
def sp_L_works (K : PySem.W.Frag) : DSp := fun ds G Q => ∃ n ls g, ds = [webD n ls] ∧ G (tW K) = some (.sm (.tab qW g)) ∧ ∀ (G' : Gp) (p : Addr) (fs : List Addr) (cl : List (Str × Addr)), SubN G G' → G' p = some (.sm (.lst (fs.map D.ref))) → fs.length = 5 → cl.map (·.1) = [("_law_web_here" : Str)] →
  (∀ i f, fs[i]? = some f → G' f = some (.sm (.fn (lmR i cl) (some [webD n ls])))) → Q (.ref p) G'
def sp_lawT (K : PySem.W.Frag) : DSp := fun ds G Q => ∃ sc ns, ds = [.ref sc] ∧ ScrAt K G sc ns ∧ G (tW K) = some (.sm (.tab qW none)) ∧ sc ≠ tW K ∧ ∀ G', Q (.bl true) G'
theorem len_need_webX {K : PySem.W.Frag} : ∀ ds G Q E', spx_need_web K ds G Q E' → ds.length = 1 := by rintro _ _ _ _ ⟨_, _, rfl, _⟩; rfl
theorem len_bad {K : PySem.W.Frag} : ∀ ds G Q E', spBad K ds G Q E' → ds.length = 1 := by rintro _ _ _ _ ⟨_, _, _, rfl, _⟩; rfl
theorem len_N_initX {K : PySem.W.Frag} : ∀ ds G Q E', spx_N_init K ds G Q E' → ds.length = 5 := by rintro _ _ _ _ ⟨_, _, _, _, _, _, _, rfl, _⟩; rfl
theorem len_L_bad {K : PySem.W.Frag} : ∀ ds G Q, sp_L_bad K ds G Q → ds.length = 1 := by rintro _ _ _ ⟨_, _, rfl, _⟩; rfl
theorem len_L_spoilt {K : PySem.W.Frag} : ∀ ds G Q, sp_L_spoilt K ds G Q → ds.length = 2 := by rintro _ _ _ ⟨_, _, _, rfl, _⟩; rfl
theorem len_L_word {K : PySem.W.Frag} : ∀ ds G Q, sp_L_word K ds G Q → ds.length = 1 := by rintro _ _ _ ⟨_, _, _, _, _, rfl, _⟩; rfl
theorem len_L_works {K : PySem.W.Frag} : ∀ ds G Q, sp_L_works K ds G Q → ds.length = 1 := by rintro _ _ _ ⟨_, _, _, rfl, _⟩; rfl
theorem len_lawT {K : PySem.W.Frag} : ∀ ds G Q, sp_lawT K ds G Q → ds.length = 1 := by rintro _ _ _ ⟨_, _, rfl, _⟩; rfl
end Dg


namespace Dg
open PySem PySem.Spec L2 Hd
structure Tx (K : PySem.W.Frag) (mg : Str → Option Value) : Prop where
  d__wall : ∃ fd, FunD K "_wall" "_wall" (defArgs s__wall) (defBody s__wall) (defScope s__wall) [] [] (He.fAd K ("_wall", none)) fd
  g__wall : mg "_wall" = some (.ref (He.fAd K ("_wall", none)))
  d_is_door : ∃ fd, FunD K "is_door" "is_door" (defArgs s_is_door) (defBody s_is_door) (defScope s_is_door) [] [] (He.fAd K ("is_door", none)) fd
  g_is_door : mg "is_door" = some (.ref (He.fAd K ("is_door", none)))
  d_need_web : ∃ fd, FunD K "need_web" "need_web" (defArgs s_need_web) (defBody s_need_web) (defScope s_need_web) [] [] (He.fAd K ("need_web", none)) fd
  g_need_web : mg "need_web" = some (.ref (He.fAd K ("need_web", none)))
  d_next_ones : ∃ fd, FunD K "next_ones" "next_ones" (defArgs s_next_ones) (defBody s_next_ones) (defScope s_next_ones) [] [] (He.fAd K ("next_ones", none)) fd
  g_next_ones : mg "next_ones" = some (.ref (He.fAd K ("next_ones", none)))
  d_way_by : ∃ fd, FunD K "way_by" "way_by" (defArgs s_way_by) (defBody s_way_by) (defScope s_way_by) [] [] (He.fAd K ("way_by", none)) fd
  g_way_by : mg "way_by" = some (.ref (He.fAd K ("way_by", none)))
  d_taken_and_ring : ∃ fd, FunD K "taken_and_ring" "taken_and_ring" (defArgs s_taken_and_ring) (defBody s_taken_and_ring) (defScope s_taken_and_ring) [] [] (He.fAd K ("taken_and_ring", none)) fd
  g_taken_and_ring : mg "taken_and_ring" = some (.ref (He.fAd K ("taken_and_ring", none)))
  d_ring : ∃ fd, FunD K "ring" "ring" (defArgs s_ring) (defBody s_ring) (defScope s_ring) [] [] (He.fAd K ("ring", none)) fd
  g_ring : mg "ring" = some (.ref (He.fAd K ("ring", none)))
  d_enough : ∃ fd, FunD K "enough" "enough" (defArgs s_enough) (defBody s_enough) (defScope s_enough) [] [] (He.fAd K ("enough", none)) fd
  g_enough : mg "enough" = some (.ref (He.fAd K ("enough", none)))
  d_without : ∃ fd, FunD K "without" "without" (defArgs s_without) (defBody s_without) (defScope s_without) [] [] (He.fAd K ("without", none)) fd
  g_without : mg "without" = some (.ref (He.fAd K ("without", none)))
  d_L_taken : ∃ fd, FunD K "_law_taken" "_law_taken" (defArgs sL_taken) (defBody sL_taken) (defScope sL_taken) [] [] (He.fAd K ("_law_taken", none)) fd
  g_L_taken : mg "_law_taken" = some (.ref (He.fAd K ("_law_taken", none)))
  d_L_free : ∃ fd, FunD K "_law_free" "_law_free" (defArgs sL_free) (defBody sL_free) (defScope sL_free) [] [] (He.fAd K ("_law_free", none)) fd
  g_L_free : mg "_law_free" = some (.ref (He.fAd K ("_law_free", none)))
  d_L_link : ∃ fd, FunD K "_law_link" "_law_link" (defArgs sL_link) (defBody sL_link) (defScope sL_link) [] [] (He.fAd K ("_law_link", none)) fd
  g_L_link : mg "_law_link" = some (.ref (He.fAd K ("_law_link", none)))
  d_L_web : ∃ fd, FunD K "_law_web" "_law_web" (defArgs sL_web) (defBody sL_web) (defScope sL_web) [] [] (He.fAd K ("_law_web", none)) fd
  g_L_web : mg "_law_web" = some (.ref (He.fAd K ("_law_web", none)))
  d_L_bad : ∃ fd, FunD K "_law_bad" "_law_bad" (defArgs sL_bad) (defBody sL_bad) (defScope sL_bad) [] [] (He.fAd K ("_law_bad", none)) fd
  g_L_bad : mg "_law_bad" = some (.ref (He.fAd K ("_law_bad", none)))
  d_L_spoilt : ∃ fd, FunD K "_law_spoilt" "_law_spoilt" (defArgs sL_spoilt) (defBody sL_spoilt) (defScope sL_spoilt) [] [] (He.fAd K ("_law_spoilt", none)) fd
  g_L_spoilt : mg "_law_spoilt" = some (.ref (He.fAd K ("_law_spoilt", none)))
  d_L_word : ∃ fd, FunD K "_law_word" "_law_word" (defArgs sL_word) (defBody sL_word) (defScope sL_word) [] [] (He.fAd K ("_law_word", none)) fd
  g_L_word : mg "_law_word" = some (.ref (He.fAd K ("_law_word", none)))
  d_L_works : ∃ fd, FunD K "_law_works" "_law_works" (defArgs sL_works) (defBody sL_works) (defScope sL_works) [] [] (He.fAd K ("_law_works", none)) fd
  g_L_works : mg "_law_works" = some (.ref (He.fAd K ("_law_works", none)))
  d_law : ∃ fd, FunD K "law" "law" (defArgs s_law) (defBody s_law) (defScope s_law) [] [] (He.fAd K ("law", none)) fd
  g_law : mg "law" = some (.ref (He.fAd K ("law", none)))
  g_PortError : mg "PortError" = some (.ref (He.ga K "PortError"))
  g_BadWeb : mg "BadWeb" = some (.ref (He.ga K "BadWeb"))
  g_BadNet : mg "BadNet" = some (.ref (He.ga K "BadNet"))
  g_BadPlace : mg "BadPlace" = some (.ref (He.ga K "BadPlace"))
  g_BadTime : mg "BadTime" = some (.ref (He.ga K "BadTime"))
  g_BadHost : mg "BadHost" = some (.ref (He.ga K "BadHost"))
  g_HasRing : mg "HasRing" = some (.ref (He.ga K "HasRing"))
  g_Net : mg "Net" = some (.ref (He.ga K "Net"))
  mkN : Mk K (He.ga K "Net") (He.fAd K ("Net", some "__init__"))
  d_Net_init : ∃ fd, FunD K "__init__" "Net.__init__" (defArgs s_Net___init__) (defBody s_Net___init__) (defScope s_Net___init__) [] [] (He.fAd K ("Net", some "__init__")) fd
  d_BadWeb_init : ∃ fd, FunD K "__init__" "BadWeb.__init__" (defArgs s_BadWeb___init__) (defBody s_BadWeb___init__) (defScope s_BadWeb___init__) [] [] (He.fAd K ("BadWeb", some "__init__")) fd
  m_ValueError : mg "ValueError" = none
  m_int : mg "int" = none
  m_isinstance : mg "isinstance" = none
  m_len : mg "len" = none
  m_list : mg "list" = none
  m_max : mg "max" = none
  m_min : mg "min" = none
  m_range : mg "range" = none
  m_sorted : mg "sorted" = none
  m_tuple : mg "tuple" = none
  i_MOST_BOXES : ∃ t, mg "MOST_BOXES" = some (.int 6 t)
  i_DOORS : ∃ t, mg "DOORS" = some (.int 4 t)
  i_MOST_LINKS : ∃ t, mg "MOST_LINKS" = some (.int 10 t)
  i_MOST_AGE : ∃ t, mg "MOST_AGE" = some (.int 20 t)
  i_MOST_ROOM : ∃ t, mg "MOST_ROOM" = some (.int 8 t)
  i_MOST_HOSTS : ∃ t, mg "MOST_HOSTS" = some (.int 8 t)
  i_MOST_TIME : ∃ t, mg "MOST_TIME" = some (.int 1000 t)
  i_MOST_STEPS : ∃ t, mg "MOST_STEPS" = some (.int 60 t)
  oex : OexC K (He.ga K "BadWeb")
  nno : PySem.W.findIn K (.ref (He.ga K "BadWeb")) "number" = some none
  iC : PySem.W.findIn K (.ref (He.ga K "BadWeb")) "__init__" = some (some (.ref (He.ma K (He.ga K "BadWeb") "__init__")))
  tI : PySem.W.typeIn K (.ref (He.ma K (He.ga K "BadWeb") "__init__")) = some (.type "function")
  ini : PySem.W.readsIn K (He.ga K "PortError") (.type "type") = true ∧ PySem.W.specialIn K (.ref (He.ga K "PortError")) "__getattribute__" = some (some (.builtin "type.__getattribute__")) ∧ PySem.W.findCls K (.ref (He.ga K "PortError")) (.type "type") "__init__" = some (.val (.builtin "ValueError.__init__"))
  exm : PySem.W.exmOne K (.ref (He.ga K "BadWeb")) (.ref (He.ga K "PortError")) = some true
  exc : ExcC K (He.ga K "BadWeb")
  xf : XfC K (He.ga K "BadWeb")
  k0 : PySem.W.kitAny K (.ref (He.ga K "BadWeb")) (([He.ga K "BadHost", He.ga K "BadNet", He.ga K "BadPlace", He.ga K "BadTime", He.ga K "HasRing"] : List Addr).map Value.ref) = some false
  k1 : PySem.W.kitOne K (.ref (He.ga K "BadWeb")) (.ref (He.ga K "BadWeb")) = some true
  k2 : PySem.W.kitOne K (.ref (He.ga K "BadWeb")) (.type "ValueError") = some true
theorem tx {K : PySem.W.Frag} {h : Heap} {mg : Str → Option Value} (X : K.In h) (G : h.Ns mainGlobals mg) (c : He.SaysD fa fn K) (e : exF K = true) : Tx K mg := by
  unfold exF at e
  simp only [Bool.and_eq_true] at e
  obtain ⟨⟨⟨⟨⟨⟨⟨⟨⟨⟨e_oex, e_nno⟩, e_iC⟩, e_tI⟩, e_ini⟩, e_exm⟩, e_exc⟩, e_xf⟩, e_k0⟩, e_k1⟩, e_k2⟩ := e
  exact ⟨c.def_ 0 (d := ds__wall) rfl,
    He.glo_ok X G (c.fact 0 (f := .glo "_wall") rfl),
    c.def_ 1 (d := ds_is_door) rfl,
    He.glo_ok X G (c.fact 1 (f := .glo "is_door") rfl),
    c.def_ 2 (d := ds_need_web) rfl,
    He.glo_ok X G (c.fact 2 (f := .glo "need_web") rfl),
    c.def_ 3 (d := ds_next_ones) rfl,
    He.glo_ok X G (c.fact 3 (f := .glo "next_ones") rfl),
    c.def_ 4 (d := ds_way_by) rfl,
    He.glo_ok X G (c.fact 4 (f := .glo "way_by") rfl),
    c.def_ 5 (d := ds_taken_and_ring) rfl,
    He.glo_ok X G (c.fact 5 (f := .glo "taken_and_ring") rfl),
    c.def_ 6 (d := ds_ring) rfl,
    He.glo_ok X G (c.fact 6 (f := .glo "ring") rfl),
    c.def_ 7 (d := ds_enough) rfl,
    He.glo_ok X G (c.fact 7 (f := .glo "enough") rfl),
    c.def_ 8 (d := ds_without) rfl,
    He.glo_ok X G (c.fact 8 (f := .glo "without") rfl),
    c.def_ 9 (d := dsL_taken) rfl,
    He.glo_ok X G (c.fact 9 (f := .glo "_law_taken") rfl),
    c.def_ 10 (d := dsL_free) rfl,
    He.glo_ok X G (c.fact 10 (f := .glo "_law_free") rfl),
    c.def_ 11 (d := dsL_link) rfl,
    He.glo_ok X G (c.fact 11 (f := .glo "_law_link") rfl),
    c.def_ 12 (d := dsL_web) rfl,
    He.glo_ok X G (c.fact 12 (f := .glo "_law_web") rfl),
    c.def_ 13 (d := dsL_bad) rfl,
    He.glo_ok X G (c.fact 13 (f := .glo "_law_bad") rfl),
    c.def_ 14 (d := dsL_spoilt) rfl,
    He.glo_ok X G (c.fact 14 (f := .glo "_law_spoilt") rfl),
    c.def_ 15 (d := dsL_word) rfl,
    He.glo_ok X G (c.fact 15 (f := .glo "_law_word") rfl),
    c.def_ 16 (d := dsL_works) rfl,
    He.glo_ok X G (c.fact 16 (f := .glo "_law_works") rfl),
    c.def_ 17 (d := ds_law) rfl,
    He.glo_ok X G (c.fact 17 (f := .glo "law") rfl),
    He.glo_ok X G (c.fact 18 (f := .glo "PortError") rfl),
    He.glo_ok X G (c.fact 19 (f := .glo "BadWeb") rfl),
    He.glo_ok X G (c.fact 20 (f := .glo "BadNet") rfl),
    He.glo_ok X G (c.fact 21 (f := .glo "BadPlace") rfl),
    He.glo_ok X G (c.fact 22 (f := .glo "BadTime") rfl),
    He.glo_ok X G (c.fact 23 (f := .glo "BadHost") rfl),
    He.glo_ok X G (c.fact 24 (f := .glo "HasRing") rfl),
    He.glo_ok X G (c.fact 25 (f := .glo "Net") rfl),
    He.mkr_ok (c.fact 27 (f := .mkr "Net") rfl),
    c.def_ 20 (d := ds_Net___init__) rfl,
    c.def_ 18 (d := ds_BadWeb___init__) rfl,
    He.free_ok X G (c.fact 57 (f := .free "ValueError") rfl),
    He.free_ok X G (c.fact 58 (f := .free "int") rfl),
    He.free_ok X G (c.fact 59 (f := .free "isinstance") rfl),
    He.free_ok X G (c.fact 60 (f := .free "len") rfl),
    He.free_ok X G (c.fact 61 (f := .free "list") rfl),
    He.free_ok X G (c.fact 62 (f := .free "max") rfl),
    He.free_ok X G (c.fact 63 (f := .free "min") rfl),
    He.free_ok X G (c.fact 64 (f := .free "range") rfl),
    He.free_ok X G (c.fact 65 (f := .free "sorted") rfl),
    He.free_ok X G (c.fact 66 (f := .free "tuple") rfl),
    He.int_ok X G (c.fact 49 (f := .int "MOST_BOXES" 6) rfl),
    He.int_ok X G (c.fact 50 (f := .int "DOORS" 4) rfl),
    He.int_ok X G (c.fact 51 (f := .int "MOST_LINKS" 10) rfl),
    He.int_ok X G (c.fact 52 (f := .int "MOST_AGE" 20) rfl),
    He.int_ok X G (c.fact 53 (f := .int "MOST_ROOM" 8) rfl),
    He.int_ok X G (c.fact 54 (f := .int "MOST_HOSTS" 8) rfl),
    He.int_ok X G (c.fact 55 (f := .int "MOST_TIME" 1000) rfl),
    He.int_ok X G (c.fact 56 (f := .int "MOST_STEPS" 60) rfl),
    Hy.oexAll_ok e_oex,
    of_decide_eq_true e_nno,
    of_decide_eq_true e_iC,
    of_decide_eq_true e_tI,
    Hy.iniB_ok e_ini,
    of_decide_eq_true e_exm,
    Hy.excB_ok e_exc,
    xfB_ok e_xf,
    of_decide_eq_true e_k0,
    of_decide_eq_true e_k1,
    of_decide_eq_true e_k2⟩
end Dg

namespace Dg
open PySem PySem.Spec L2
/-- is_door: slots 0=boxes 1=box 2=door -/
def b_is_door (K : PySem.W.Frag) : DS :=
    (dRet (dAndV (dChain eLe eLt (dC (.int 0)) (dVar 1) (dVar 0)) (dChain eLe eLt (dC (.int 0)) (dVar 2) (dC (.int 4)))))
abbrev n_is_door : Nat := 3
/-- need_web: slots 0=web 1=boxes 2=links 3=taken 4=number 5=one 6=door 7=other 8=its_door 9=ends 10=good 11=end -/
def b_need_web (K : PySem.W.Frag) : DS :=
    (dSeq (dAsg (dVar 0) (hTup 2 (hCons (hName 1) (hCons (hName 2) hNil))))
    (dSeq (dIfS (dNot (dTest (dChain eLe eLe (dC (.int 1)) (dVar 1) (dC (.int 6))))) dNo dNext)
    (dSeq (dAsg (dLst dNil) (hName 3))
    (dForR1 (dCons (dCB cLen (dCons (dVar 2) dNil)) dNil) (hName 4) (dSeq (dAsg (dOp eIxT (dVar 2) (dVar 4)) (hTup 4 (hCons (hName 5) (hCons (hName 6) (hCons (hName 7) (hCons (hName 8) hNil))))))
    (dSeq (dAsg (dLst (dCons (dTup (dCons (dVar 5) (dCons (dVar 6) dNil))) (dCons (dTup (dCons (dVar 7) (dCons (dVar 8) dNil))) dNil))) (hName 9))
    (dSeq (dAsg (dAndV (dOp eLt (dVar 4) (dC (.int 10))) (dAndV (dOp eNe (dVar 5) (dVar 7)) (dAndV (dCall (sp_is_door K) (dCons (dVar 1) (dCons (dVar 5) (dCons (dVar 6) dNil)))) (dCall (sp_is_door K) (dCons (dVar 1) (dCons (dVar 7) (dCons (dVar 8) dNil))))))) (hName 10))
    (dSeq (dIfS (dOr (dNot (dTest (dVar 10))) (dTest (dOp eNeD (dFz (dLcL (dVar 9) (.nm 11) (dTest (dOp (eInD false) (dVar 11) (dVar 3))) (dVar 11) [11])) (dFz (dLst dNil))))) dNo dNext)
    (dDrop (dBM "list" mExtend (dVar 3) (dCons (dVar 9) dNil)))))))))))
abbrev n_need_web : Nat := 12
/-- next_ones: slots 0=links 1=numbers 2=box 3=found 4=number 5=one 6=door 7=other 8=its_door -/
def b_next_ones (K : PySem.W.Frag) : DS :=
    (dSeq (dAsg (dLst dNil) (hName 3))
    (dSeq (dForL (dVar 1) (hName 4) (dSeq (dAsg (dOp eIxT (dVar 0) (dVar 4)) (hTup 4 (hCons (hName 5) (hCons (hName 6) (hCons (hName 7) (hCons (hName 8) hNil))))))
    (dIfS (dTest (dOp (eInF false) (dVar 2) (dTup (dCons (dVar 5) (dCons (dVar 7) dNil))))) (dDrop (dBM "list" mAppend (dVar 3) (dCons (dTup (dCons (dVar 4) (dCons (dIf (dTest (dOp eEq (dVar 5) (dVar 2))) (dVar 7) (dVar 5)) dNil))) dNil))) dNext)))
    (dRet (dVar 3))))
abbrev n_next_ones : Nat := 9
/-- way_by: slots 0=links 1=numbers 2=begin 3=end 4=ways 5=left 6=here 7=number 8=box -/
def b_way_by (K : PySem.W.Frag) : DS :=
    (dSeq (dAsg (dDisp [((dVar 2), (dFz (dLst dNil)))]) (hName 4))
    (dSeq (dAsg (dLst (dCons (dVar 2) dNil)) (hName 5))
    (dSeq (dWhile (dTest (dOp eNeD (dVar 5) (dFz (dLst dNil)))) (dSeq (dAsg (dBM "list" mPopAt (dVar 5) (dCons (dC (.int 0)) dNil)) (hName 6))
    (dForL (dCall (sp_next_ones K) (dCons (dVar 0) (dCons (dVar 1) (dCons (dVar 6) dNil)))) (hTup 2 (hCons (hName 7) (hCons (hName 8) hNil))) (dIfS (dTest (dDIn true (dVar 8) (dVar 4))) (dSeq (dDPut (dVar 4) (dVar 8) (dFz (dOp eCat (dDGet (dVar 4) (dVar 6)) (dFz (dLst (dCons (dVar 7) dNil))))))
    (dDrop (dBM "list" mAppend (dVar 5) (dCons (dVar 8) dNil)))) dNext))))
    (dRet (dDGet1 (dVar 4) (dVar 3))))))
abbrev n_way_by : Nat := 9
/-- taken_and_ring: slots 0=web 1=taken 2=found 3=number 4=one 5=door 6=other 7=its_door 8=way -/
def b_taken_and_ring (K : PySem.W.Frag) : DS :=
    (dSeq (dAsg (dLst dNil) (hName 1))
    (dSeq (dAsg (dC .non) (hName 2))
    (dSeq (dForR1 (dCons (dCB cLen (dCons (dOp eIxT (dVar 0) (dC (.int 1))) dNil)) dNil) (hName 3) (dSeq (dAsg (dOp eIxT (dOp eIxT (dVar 0) (dC (.int 1))) (dVar 3)) (hTup 4 (hCons (hName 4) (hCons (hName 5) (hCons (hName 6) (hCons (hName 7) hNil))))))
    (dSeq (dAsg (dCall (sp_way_by K) (dCons (dOp eIxT (dVar 0) (dC (.int 1))) (dCons (dVar 1) (dCons (dVar 4) (dCons (dVar 6) dNil))))) (hName 8))
    (dIfS (dTest (dIsN (dVar 8))) (dDrop (dBM "list" mAppend (dVar 1) (dCons (dVar 3) dNil))) (dIfS (dTest (dIsN (dVar 2))) (dAsg (dOp eCat (dVar 8) (dFz (dLst (dCons (dVar 3) dNil)))) (hName 2)) dNext)))))
    (dRet (dTup (dCons (dVar 1) (dCons (dVar 2) dNil)))))))
abbrev n_taken_and_ring : Nat := 9
/-- ring: slots 0=web -/
def b_ring (K : PySem.W.Frag) : DS :=
    (dSeq (dDrop (dCall (sp_need_web K) (dCons (dVar 0) dNil)))
    (dRet (dOp eIxT (dCall (sp_taken_and_ring K) (dCons (dVar 0) dNil)) (dC (.int 1)))))
abbrev n_ring : Nat := 1
/-- enough: slots 0=web -/
def b_enough (K : PySem.W.Frag) : DS :=
    (dSeq (dDrop (dCall (sp_need_web K) (dCons (dVar 0) dNil)))
    (dRet (dOp eIxT (dCall (sp_taken_and_ring K) (dCons (dVar 0) dNil)) (dC (.int 0)))))
abbrev n_enough : Nat := 1
/-- without: slots 0=web 1=number -/
def b_without (K : PySem.W.Frag) : DS :=
    (dRet (dTup (dCons (dOp eIxT (dVar 0) (dC (.int 0))) (dCons (dCB cTuple (dCons (dFz (dLcL (dCall (sp_enough K) (dCons (dVar 0) dNil)) (.nm 1) dYes (dOp eIxT (dOp eIxT (dVar 0) (dC (.int 1))) (dVar 1)) [1])) dNil)) dNil))))
abbrev n_without : Nat := 2
/-- _law_alike: slots 0=found 1=due 2=k -/
def b_L_alike (K : PySem.W.Frag) (sr : DSp) : DS :=
    (dSeq (dIfS (dOr (dTest (dIsi "tuple" (dVar 1))) (dTest (dIsi "list" (dVar 1)))) (dSeq (dIfS (dOr (dTest (dOp eNe (dIsi "tuple" (dVar 0)) (dIsi "tuple" (dVar 1)))) (dNot (dTest (dIsi2 "tuple" "list" (dVar 0))))) (dRet (dC (.bl false))) dNext)
    (dSeq (dIfS (dTest (dOp eNe (dCB cLen (dCons (dVar 0) dNil)) (dCB cLen (dCons (dVar 1) dNil)))) (dRet (dC (.bl false))) dNext)
    (dRet (dOp eEqD (dFz (dLcR1 (dCons (dCB cLen (dCons (dVar 1) dNil)) dNil) (.nm 2) (dNot (dTest (dCall sr (dCons (dOp eIxA (dVar 0) (dVar 2)) (dCons (dOp eIxA (dVar 1) (dVar 2)) dNil))))) (dVar 2) [2])) (dFz (dLst dNil)))))) dNext)
    (dSeq (dIfS (dOr (dTest (dIsN (dVar 1))) (dTest (dIsN (dVar 0)))) (dRet (dAndV (dIsN (dVar 1)) (dIsN (dVar 0)))) dNext)
    (dSeq (dIfS (dOr (dTest (dIsi "bool" (dVar 1))) (dTest (dIsi "bool" (dVar 0)))) (dRet (dAndV (dIsi "bool" (dVar 1)) (dAndV (dIsi "bool" (dVar 0)) (dOp eEq (dVar 0) (dVar 1))))) dNext)
    (dSeq (dIfS (dTest (dIsi "str" (dVar 1))) (dRet (dAndV (dIsi "str" (dVar 0)) (dOp eEq (dVar 0) (dVar 1)))) dNext)
    (dRet (dAndV (dIsi "int" (dVar 0)) (dOp eEq (dVar 0) (dVar 1))))))))
abbrev n_L_alike : Nat := 3
/-- _law_groups: slots 0=web_here 1=numbers 2=found 3=turn 4=number 5=one 6=door 7=other 8=its_door 9=least -/
def b_L_groups (K : PySem.W.Frag) : DS :=
    (dSeq (dAsg (dListRng (dOp eIxT (dVar 0) (dC (.int 0)))) (hName 2))
    (dSeq (dForR1 (dCons (dOp eIxT (dVar 0) (dC (.int 0))) dNil) (hName 3) (dForL (dVar 1) (hName 4) (dSeq (dAsg (dOp eIxT (dOp eIxT (dVar 0) (dC (.int 1))) (dVar 4)) (hTup 4 (hCons (hName 5) (hCons (hName 6) (hCons (hName 7) (hCons (hName 8) hNil))))))
    (dSeq (dAsg (dCB cMin2 (dCons (dOp eIxL (dVar 2) (dVar 5)) (dCons (dOp eIxL (dVar 2) (dVar 7)) dNil))) (hName 9))
    (dSeq (dAsg (dVar 9) (hSub (dVar 2) (dVar 5) eSetL))
    (dAsg (dVar 9) (hSub (dVar 2) (dVar 7) eSetL)))))))
    (dRet (dVar 2))))
abbrev n_L_groups : Nat := 10
/-- _law_goes_round: slots 0=web_here 1=some 2=begin 3=here 4=met 5=number 6=one 7=door 8=other 9=its_door -/
def b_L_goes_round (K : PySem.W.Frag) : DS :=
    (dSeq (dAsg (dVar 2) (hName 3))
    (dSeq (dAsg (dLst dNil) (hName 4))
    (dSeq (dForL (dVar 1) (hName 5) (dSeq (dAsg (dOp eIxT (dOp eIxT (dVar 0) (dC (.int 1))) (dVar 5)) (hTup 4 (hCons (hName 6) (hCons (hName 7) (hCons (hName 8) (hCons (hName 9) hNil))))))
    (dSeq (dIfS (dOr (dTest (dOp (eInF true) (dVar 3) (dTup (dCons (dVar 6) (dCons (dVar 8) dNil))))) (dTest (dOp (eInF false) (dVar 3) (dVar 4)))) (dRet (dC (.bl false))) dNext)
    (dSeq (dDrop (dBM "list" mAppend (dVar 4) (dCons (dVar 3) dNil)))
    (dAsg (dIf (dTest (dOp eEq (dVar 3) (dVar 6))) (dVar 8) (dVar 6)) (hName 3))))))
    (dRet (dOp eEq (dVar 3) (dVar 2))))))
abbrev n_L_goes_round : Nat := 10
/-- _law_is_ring: slots 0=web_here 1=some 2=number 3=box -/
def b_L_is_ring (K : PySem.W.Frag) : DS :=
    (dSeq (dIfS (dOr (dNot (dTest (dIsi "list" (dVar 1)))) (dOr (dTest (dOp eLt (dCB cLen (dCons (dVar 1) dNil)) (dC (.int 2)))) (dTest (dOp eLt (dLenSet (dVar 1)) (dCB cLen (dCons (dVar 1) dNil)))))) (dRet (dC (.bl false))) dNext)
    (dSeq (dIfS (dTest (dOp eNeD (dFz (dLcL (dVar 1) (.nm 2) (dOr (dNot (dTest (dIsi "int" (dVar 2)))) (dTest (dNotInRng (dVar 2) (dCB cLen (dCons (dOp eIxT (dVar 0) (dC (.int 1))) dNil))))) (dVar 2) [2])) (dFz (dLst dNil)))) (dRet (dC (.bl false))) dNext)
    (dRet (dOp eNeD (dFz (dLcR1 (dCons (dOp eIxT (dVar 0) (dC (.int 0))) dNil) (.nm 3) (dTest (dCall (sp_L_goes_round K) (dCons (dVar 0) (dCons (dVar 1) (dCons (dVar 3) dNil))))) (dVar 3) [3])) (dFz (dLst dNil))))))
abbrev n_L_is_ring : Nat := 4
end Dg

namespace Dg
open PySem PySem.Spec L2
/-- _law_bad: slots 0=web_here 1=boxes 2=links 3=met 4=number 5=one 6=door 7=other 8=its_door 9=box 10=way -/
def b_L_bad (K : PySem.W.Frag) : DS :=
    (dSeq (dAsg (dVar 0) (hTup 2 (hCons (hName 1) (hCons (hName 2) hNil))))
    (dSeq (dIfS (dTest (dOp (eInF true) (dVar 1) (dTup (dCons (dC (.int 1)) (dCons (dC (.int 2)) (dCons (dC (.int 3)) (dCons (dC (.int 4)) (dCons (dC (.int 5)) (dCons (dC (.int 6)) dNil))))))))) (dRet (dOp eSub (dC (.int 0)) (dC (.int 1)))) dNext)
    (dSeq (dAsg (dFz (dLst dNil)) (hName 3))
    (dSeq (dForR1 (dCons (dCB cLen (dCons (dVar 2) dNil)) dNil) (hName 4) (dSeq (dAsg (dOp eIxT (dVar 2) (dVar 4)) (hTup 4 (hCons (hName 5) (hCons (hName 6) (hCons (hName 7) (hCons (hName 8) hNil))))))
    (dSeq (dIfS (dOr (dTest (dOp eGt (dVar 4) (dC (.int 9)))) (dOr (dTest (dOp eEq (dVar 5) (dVar 7))) (dOr (dTest (dOp (eInD false) (dTup (dCons (dVar 5) (dCons (dVar 6) dNil))) (dVar 3))) (dTest (dOp (eInD false) (dTup (dCons (dVar 7) (dCons (dVar 8) dNil))) (dVar 3)))))) (dRet (dVar 4)) dNext)
    (dSeq (dIfS (dTest (dOp eNeD (dFz (dLcT (dTup (dCons (dVar 5) (dCons (dVar 7) dNil))) (.nm 9) (dTest (dNotInRng (dVar 9) (dVar 1))) (dVar 9) [9])) (dFz (dLst dNil)))) (dRet (dVar 4)) dNext)
    (dSeq (dIfS (dTest (dOp eNeD (dFz (dLcT (dTup (dCons (dVar 6) (dCons (dVar 8) dNil))) (.nm 10) (dTest (dOp (eInF true) (dVar 10) (dTup (dCons (dC (.int 0)) (dCons (dC (.int 1)) (dCons (dC (.int 2)) (dCons (dC (.int 3)) dNil))))))) (dVar 10) [10])) (dFz (dLst dNil)))) (dRet (dVar 4)) dNext)
    (dAsg (dFz (dOp eCat (dVar 3) (dFz (dLst (dCons (dTup (dCons (dVar 5) (dCons (dVar 6) dNil))) (dCons (dTup (dCons (dVar 7) (dCons (dVar 8) dNil))) dNil)))))) (hName 3)))))))
    (dRet (dC .non))))))
abbrev n_L_bad : Nat := 11
/-- _law_spoilt: slots 0=row 1=web_here 2=boxes 3=links 4=far 5=way 6=many 7=k 8=at 9=part -/
def b_L_spoilt (K : PySem.W.Frag) : DS :=
    (dSeq (dAsg (dVar 1) (hTup 2 (hCons (hName 2) (hCons (hName 3) hNil))))
    (dSeq (dAsg (dOp eIxL (dFz (dLst (dCons (dC (.int 0)) (dCons (dCall (sp_L_taken K) (dCons (dVar 0) (dCons (dC (.int 1000)) dNil))) dNil)))) (dCall (sp_L_taken K) (dCons (dVar 0) (dCons (dC (.int 2)) dNil)))) (hName 4))
    (dSeq (dAsg (dCall (sp_L_taken K) (dCons (dVar 0) (dCons (dC (.int 7)) dNil))) (hName 5))
    (dSeq (dIfS (dTest (dOp eEq (dVar 5) (dC (.int 0)))) (dRet (dTup (dCons (dOp eIxL (dFz (dLst (dCons (dC (.int 0)) (dCons (dOp eAdd (dC (.int 7)) (dVar 4)) (dCons (dOp eSub (dOp eSub (dC (.int 0)) (dC (.int 1))) (dVar 4)) (dCons (dCB cMax2 (dCons (dC (.int 1)) (dCons (dOp eSub (dVar 2) (dC (.int 1))) dNil))) dNil)))))) (dCall (sp_L_taken K) (dCons (dVar 0) (dCons (dC (.int 4)) dNil)))) (dCons (dVar 3) dNil)))) dNext)
    (dSeq (dIfS (dTest (dOp eEq (dVar 5) (dC (.int 1)))) (dSeq (dAsg (dOp eAdd (dC (.int 10)) (dCall (sp_L_taken K) (dCons (dVar 0) (dCons (dC (.int 2)) dNil)))) (hName 6))
    (dRet (dTup (dCons (dC (.int 6)) (dCons (dCB cTuple (dCons (dFz (dLcR1 (dCons (dVar 6) dNil) (.nm 7) dYes (dTup (dCons (dOp eMod (dVar 7) (dC (.int 5))) (dCons (dOp eDiv (dVar 7) (dC (.int 5))) (dCons (dC (.int 5)) (dCons (dOp eMod (dVar 7) (dC (.int 4))) dNil))))) [7])) dNil)) dNil))))) dNext)
    (dSeq (dIfS (dTest (dOp eEq (dVar 5) (dC (.int 2)))) (dRet (dTup (dCons (dC (.int 6)) (dCons (dCB cTuple (dCons (dFz (dLcR1 (dCons (dOp eAdd (dC (.int 10)) (dCall (sp_L_taken K) (dCons (dVar 0) (dCons (dC (.int 2)) dNil)))) dNil) (.nm 7) dYes (dTup (dCons (dOp eMul (dOp eMod (dVar 7) (dC (.int 3))) (dC (.int 2))) (dCons (dOp eDiv (dVar 7) (dC (.int 3))) (dCons (dOp eAdd (dOp eMul (dOp eMod (dVar 7) (dC (.int 3))) (dC (.int 2))) (dC (.int 1))) (dCons (dOp eDiv (dVar 7) (dC (.int 3))) dNil))))) [7])) dNil)) dNil)))) dNext)
    (dSeq (dIfS (dTest (dOp eEqD (dVar 3) (dTup dNil))) (dRet (dTup (dCons (dVar 2) (dCons (dTup (dCons (dTup (dCons (dC (.int 0)) (dCons (dC (.int 0)) (dCons (dOp eAdd (dVar 2) (dVar 4)) (dCons (dC (.int 1)) dNil))))) dNil)) dNil)))) dNext)
    (dSeq (dAsg (dCall (sp_L_taken K) (dCons (dVar 0) (dCons (dCB cLen (dCons (dVar 3) dNil)) dNil))) (hName 8))
    (dSeq (dAsg (dCB cList (dCons (dOp eIxT (dVar 3) (dVar 8)) dNil)) (hName 9))
    (dSeq (dAsg (dCall (sp_L_taken K) (dCons (dVar 0) (dCons (dC (.int 4)) dNil))) (hName 7))
    (dSeq (dAsg (dOp eIxL (dFz (dLst (dCons (dOp eSub (dOp eSub (dC (.int 0)) (dC (.int 1))) (dVar 4)) (dCons (dOp eAdd (dC (.int 6)) (dVar 4)) (dCons (dOp eIxL (dVar 9) (dOp eMod (dOp eAdd (dVar 7) (dC (.int 2))) (dC (.int 4)))) (dCons (dC (.int 4)) (dCons (dVar 2) dNil))))))) (dCall (sp_L_taken K) (dCons (dVar 0) (dCons (dC (.int 5)) dNil)))) (hSub (dVar 9) (dVar 7) eSetL))
    (dSeq (dIfS (dTest (dOp eEq (dVar 5) (dC (.int 3)))) (dRet (dTup (dCons (dVar 2) (dCons (dOp eCatT (dVar 3) (dSl eSlT (dVar 3) (dPart (dVar 8)) (dPart (dOp eAdd (dVar 8) (dC (.int 1)))))) dNil)))) dNext)
    (dRet (dTup (dCons (dVar 2) (dCons (dOp eCatT (dOp eCatT (dSl eSlT (dVar 3) dNoP (dPart (dVar 8))) (dTup (dCons (dCB cTuple (dCons (dVar 9) dNil)) dNil))) (dSl eSlT (dVar 3) (dPart (dOp eAdd (dVar 8) (dC (.int 1)))) dNoP)) dNil))))))))))))))))
abbrev n_L_spoilt : Nat := 10
/-- need_web: slots 0=web 1=boxes 2=links 3=taken 4=number 5=one 6=door 7=other 8=its_door 9=ends 10=good 11=end -/
def b_need_webX (K : PySem.W.Frag) (E' : DXK) : DS :=
    (dSeq (dAsg (dVar 0) (hTup 2 (hCons (hName 1) (hCons (hName 2) hNil))))
    (dSeq (dIfS (dNot (dTest (dChain eLe eLe (dC (.int 1)) (dVar 1) (dC (.int 6))))) (dRaiseN (cA K "BadWeb") "number" E' (dCons (dOp eSub (dC (.int 0)) (dC (.int 1))) dNil)) dNext)
    (dSeq (dAsg (dLst dNil) (hName 3))
    (dForR1 (dCons (dCB cLen (dCons (dVar 2) dNil)) dNil) (hName 4) (dSeq (dAsg (dOp eIxT (dVar 2) (dVar 4)) (hTup 4 (hCons (hName 5) (hCons (hName 6) (hCons (hName 7) (hCons (hName 8) hNil))))))
    (dSeq (dAsg (dLst (dCons (dTup (dCons (dVar 5) (dCons (dVar 6) dNil))) (dCons (dTup (dCons (dVar 7) (dCons (dVar 8) dNil))) dNil))) (hName 9))
    (dSeq (dAsg (dAndV (dOp eLt (dVar 4) (dC (.int 10))) (dAndV (dOp eNe (dVar 5) (dVar 7)) (dAndV (dCall (sp_is_door K) (dCons (dVar 1) (dCons (dVar 5) (dCons (dVar 6) dNil)))) (dCall (sp_is_door K) (dCons (dVar 1) (dCons (dVar 7) (dCons (dVar 8) dNil))))))) (hName 10))
    (dSeq (dIfS (dOr (dNot (dTest (dVar 10))) (dTest (dOp eNeD (dFz (dLcL (dVar 9) (.nm 11) (dTest (dOp (eInD false) (dVar 11) (dVar 3))) (dVar 11) [11])) (dFz (dLst dNil))))) (dRaiseN (cA K "BadWeb") "number" E' (dCons (dVar 4) dNil)) dNext)
    (dDrop (dBM "list" mExtend (dVar 3) (dCons (dVar 9) dNil)))))))))))
abbrev n_need_webX : Nat := 12
/-- without: slots 0=web 1=number -/
def b_withoutX (K : PySem.W.Frag) (E' : DXK) : DS :=
    (dRet (dTup (dCons (dOp eIxT (dVar 0) (dC (.int 0))) (dCons (dCB cTuple (dCons (dFz (dLcL (dCallX (spx_enough K) E' (dCons (dVar 0) dNil)) (.nm 1) dYes (dOp eIxT (dOp eIxT (dVar 0) (dC (.int 1))) (dVar 1)) [1])) dNil)) dNil))))
abbrev n_withoutX : Nat := 2
/-- law: slots 0=script 1=row 2=turn 3=good 4=web_here 5=due 6=work -/
def b_lawT (K : PySem.W.Frag) : DS :=
    (dSeq (dAsg (dFz (dLst (dCons (dVar 0) (dCons (dC (.int 0)) (dCons (dC (.int 0)) (dCons (dC (.int 0)) dNil)))))) (hName 1))
    (dSeq (dForR1 (dCons (dC (.int 6)) dNil) (hName 2) (dSeq (dAsg (dCall (sp_L_web K) (dCons (dVar 1) (dCons (dC (.int 6)) dNil))) (hName 3))
    (dSeq (dIfS (dTest (dNotN (dCall (sp_need_web1 K) (dCons (dVar 3) dNil)))) (dRet (dC (.bl false))) dNext)
    (dSeq (dAsg (dCall (sp_L_spoilt K) (dCons (dVar 1) (dCons (dVar 3) dNil))) (hName 4))
    (dSeq (dIfS (dTest (dOp eEq (dCall (sp_L_taken K) (dCons (dVar 1) (dCons (dC (.int 3)) dNil))) (dC (.int 2)))) (dAsg (dCall (sp_L_spoilt K) (dCons (dVar 1) (dCons (dVar 4) dNil))) (hName 4)) dNext)
    (dSeq (dAsg (dCall (sp_L_bad K) (dCons (dVar 4) dNil)) (hName 5))
    (dIfS (dTest (dIsN (dVar 5))) (dIfS (dTest (dNotN (dCall (sp_need_web1 K) (dCons (dVar 4) dNil)))) (dRet (dC (.bl false))) dNext) (dIfS (dTest (dOp eNeD (dFz (dLcL (dCall (sp_L_works K) (dCons (dVar 4) dNil)) (.nm 6) (dTest (dOp eNeD (dCall (sp_L_word K) (dCons (dVar 6) dNil)) (dTup (dCons (dC (.str "web")) (dCons (dVar 5) dNil))))) (dVar 6) [6])) (dFz (dLst dNil)))) (dRet (dC (.bl false))) dNext))))))))
    (dRet (dC (.bl true)))))
abbrev n_law : Nat := 7
end Dg

namespace Dg
open PySem PySem.Spec L2
/-- _law_taken: slots 0=row 1=many 2=found 3=cell -/
def b_L_taken (K : PySem.W.Frag) : DS :=
    (dSeq (dIfS (dTest (dOp eGt (dOp eIxL (dVar 0) (dC (.int 3))) (dC (.int 0)))) (dSeq (dAsg (dOp eMod (dOp eIxL (dVar 0) (dC (.int 3))) (dVar 1)) (hName 2))
    (dSeq (dAsg (dOp eDiv (dOp eIxL (dVar 0) (dC (.int 3))) (dVar 1)) (hSub (dVar 0) (dC (.int 3)) eSetL))
    (dRet (dVar 2)))) dNext)
    (dSeq (dAsg (dOp eAdd (dOp eIxL (dVar 0) (dC (.int 1))) (dC (.int 1))) (hSub (dVar 0) (dC (.int 1)) eSetL))
    (dSeq (dIfS (dTest (dOp eGt (dOp eIxL (dVar 0) (dC (.int 1))) (dCB (cLenS K) (dCons (dOp eIxL (dVar 0) (dC (.int 0))) dNil)))) (dSeq (dAsg (dOp eMod (dOp eAdd (dOp eMul (dOp eIxL (dVar 0) (dC (.int 2))) (dC (.int 48271))) (dC (.int 11))) (dC (.int 2147483647))) (hSub (dVar 0) (dC (.int 2)) eSetL))
    (dRet (dOp eMod (dOp eDiv (dOp eIxL (dVar 0) (dC (.int 2))) (dC (.int 7))) (dVar 1)))) dNext)
    (dSeq (dAsg (dOp (eIxS K) (dOp eIxL (dVar 0) (dC (.int 0))) (dOp eSub (dOp eIxL (dVar 0) (dC (.int 1))) (dC (.int 1)))) (hName 3))
    (dSeq (dAsg (dOp eMod (dOp eAdd (dOp eAdd (dOp eMul (dOp eIxL (dVar 0) (dC (.int 2))) (dC (.int 48271))) (dVar 3)) (dC (.int 11))) (dC (.int 2147483647))) (hSub (dVar 0) (dC (.int 2)) eSetL))
    (dSeq (dIfS (dTest (dOp eGe (dVar 3) (dOp ePow (dC (.int 10)) (dC (.int 18))))) (dAsg (dOp eDiv (dVar 3) (dVar 1)) (hSub (dVar 0) (dC (.int 3)) eSetL)) dNext)
    (dRet (dOp eMod (dVar 3) (dVar 1)))))))))
abbrev n_L_taken : Nat := 4
/-- _law_free: slots 0=used 1=box 2=door -/
def b_L_free (K : PySem.W.Frag) : DS :=
    (dRet (dLcR1 (dCons (dC (.int 4)) dNil) (.nm 2) (dTest (dOp (eInD true) (dTup (dCons (dVar 1) (dCons (dVar 2) dNil))) (dVar 0))) (dVar 2) [2]))
abbrev n_L_free : Nat := 3
/-- _law_link: slots 0=row 1=used 2=one 3=other 4=door 5=its_door -/
def b_L_link (K : PySem.W.Frag) : DS :=
    (dSeq (dIfS (dOr (dTest (dOp eEqD (dCall (sp_L_free K) (dCons (dVar 1) (dCons (dVar 2) dNil))) (dFz (dLst dNil)))) (dTest (dOp eEqD (dCall (sp_L_free K) (dCons (dVar 1) (dCons (dVar 3) dNil))) (dFz (dLst dNil))))) (dRet (dC .non)) dNext)
    (dSeq (dAsg (dOp eIxL (dCall (sp_L_free K) (dCons (dVar 1) (dCons (dVar 2) dNil))) (dCall (sp_L_taken K) (dCons (dVar 0) (dCons (dCB cLen (dCons (dCall (sp_L_free K) (dCons (dVar 1) (dCons (dVar 2) dNil))) dNil)) dNil)))) (hName 4))
    (dSeq (dAsg (dOp eIxL (dCall (sp_L_free K) (dCons (dVar 1) (dCons (dVar 3) dNil))) (dCall (sp_L_taken K) (dCons (dVar 0) (dCons (dCB cLen (dCons (dCall (sp_L_free K) (dCons (dVar 1) (dCons (dVar 3) dNil))) dNil)) dNil)))) (hName 5))
    (dSeq (dDrop (dBM "list" mExtend (dVar 1) (dCons (dFz (dLst (dCons (dTup (dCons (dVar 2) (dCons (dVar 4) dNil))) (dCons (dTup (dCons (dVar 3) (dCons (dVar 5) dNil))) dNil)))) dNil)))
    (dRet (dOp eIxL (dFz (dLst (dCons (dTup (dCons (dVar 2) (dCons (dVar 4) (dCons (dVar 3) (dCons (dVar 5) dNil))))) (dCons (dTup (dCons (dVar 3) (dCons (dVar 5) (dCons (dVar 2) (dCons (dVar 4) dNil))))) dNil)))) (dCall (sp_L_taken K) (dCons (dVar 0) (dCons (dC (.int 2)) dNil)))))))))
abbrev n_L_link : Nat := 6
/-- _law_web: slots 0=row 1=rings 2=boxes 3=used 4=some 5=box 6=k 7=one 8=links 9=link_here -/
def b_L_web (K : PySem.W.Frag) : DS :=
    (dSeq (dAsg (dOp eAdd (dC (.int 1)) (dCall (sp_L_taken K) (dCons (dVar 0) (dCons (dC (.int 6)) dNil)))) (hName 2))
    (dSeq (dAsg (dLst (dCons (dTup (dCons (dOp eSub (dVar 2) (dC (.int 1))) (dCons (dC (.int 3)) dNil))) dNil)) (hName 3))
    (dSeq (dAsg (dLst dNil) (hName 4))
    (dSeq (dForR2 (dCons (dC (.int 1)) (dCons (dVar 2) dNil)) (hName 5) (dIfS (dTest (dOp eLt (dCall (sp_L_taken K) (dCons (dVar 0) (dCons (dC (.int 8)) dNil))) (dC (.int 7)))) (dDrop (dBM "list" mAppend (dVar 4) (dCons (dCall (sp_L_link K) (dCons (dVar 0) (dCons (dVar 3) (dCons (dCall (sp_L_taken K) (dCons (dVar 0) (dCons (dVar 5) dNil))) (dCons (dVar 5) dNil))))) dNil))) dNext))
    (dSeq (dForR1 (dCons (dOp eMul (dCall (sp_L_taken K) (dCons (dVar 0) (dCons (dOp eAdd (dVar 1) (dC (.int 1))) dNil))) (dCB cInt (dCons (dOp eGt (dVar 2) (dC (.int 1))) dNil))) dNil) (hName 6) (dSeq (dAsg (dCall (sp_L_taken K) (dCons (dVar 0) (dCons (dVar 2) dNil))) (hName 7))
    (dDrop (dBM "list" mAppend (dVar 4) (dCons (dCall (sp_L_link K) (dCons (dVar 0) (dCons (dVar 3) (dCons (dVar 7) (dCons (dOp eMod (dOp eAdd (dOp eAdd (dVar 7) (dC (.int 1))) (dCall (sp_L_taken K) (dCons (dVar 0) (dCons (dOp eSub (dVar 2) (dC (.int 1))) dNil)))) (dVar 2)) dNil))))) dNil)))))
    (dSeq (dAsg (dLst dNil) (hName 8))
    (dSeq (dForL (dVar 4) (hName 9) (dIfS (dAnd (dTest (dNotN (dVar 9))) (dTest (dOp eLt (dCB cLen (dCons (dVar 8) dNil)) (dC (.int 10))))) (dDrop (dBM "list" mInsert (dVar 8) (dCons (dCall (sp_L_taken K) (dCons (dVar 0) (dCons (dOp eAdd (dCB cLen (dCons (dVar 8) dNil)) (dC (.int 1))) dNil))) (dCons (dVar 9) dNil)))) dNext))
    (dRet (dTup (dCons (dVar 2) (dCons (dCB cTuple (dCons (dVar 8) dNil)) dNil)))))))))))
abbrev n_L_web : Nat := 10
end Dg

namespace Dg
open PySem PySem.Spec L2

local macro_rules | `(tactic| wtm_at "ne") => `(tactic| first | assumption | (apply Ne.symm; assumption) | (grind [ud, er]))
local macro_rules | `(tactic| wtm_at "lk") => `(tactic| first | (with_reducible assumption) | (with_reducible exact ud_same) | ((with_reducible refine (ud_ne (by wtm_at "ne")).trans ?_); wtm_at "lk"))
local macro_rules | `(tactic| wtm_at "gl") => `(tactic| first | (with_reducible assumption) | (with_reducible exact lst_ref (by wtm_at "lk")) | (with_reducible exact lstOf_new (by assumption) (by assumption)) | (with_unfolding_all exact rfl))
local macro_rules | `(tactic| wtm_at "vl") => `(tactic| first | (with_reducible exact val_ref (by wtm_at "lk")) | (with_unfolding_all exact rfl))
local macro_rules | `(tactic| wtm_at "dk") => `(tactic| with_reducible first | exact dK_own (by wtm_at "lk") | exact dK_lk (by wtm_at "lk") | exact dT_own (by wtm_at "lk"))
local macro_rules | `(tactic| wtm_at "pl") => `(tactic| with_unfolding_all first | exact rfl | exact all_int _ | exact all_P2 _ | assumption)
local macro_rules | `(tactic| wtm_at "nn") => `(tactic| first | omega | decide | (simp only [List.length_cons, List.length_nil, List.length_map, List.length_append]; omega) | grind)
local macro_rules | `(tactic| wtm_at "st") => `(tactic| (simp only [stD, List.map_cons, List.map_nil, List.length_cons, List.length_nil, List.replicate, Nat.reduceAdd, Nat.reduceSub, List.cons_append, List.nil_append]))
local macro_rules | `(tactic| wtm_at "1") => `(tactic| with_reducible first
  | refine w_seq ?_ | refine w_asgN ?_ | refine w_asgS ?_ | refine w_asgT ?_ | refine w_ret ?_ | refine w_drop ?_ | refine w_ifS ?_ | refine w_test ?_ | refine w_next ?_
  | refine w_nx ?_ | refine w_nx0 ?_ | refine w_rt ?_ | refine w_bk ?_ | refine w_ct ?_
  | refine w_bl2 ?_ | refine w_and ?_ | refine w_or ?_ | refine w_not ?_ | refine w_andV ?_ | refine w_orV ?_ | refine w_notV ?_ | refine w_if ?_
  | (apply w_var; (· with_unfolding_all rfl)) | refine w_c ?_ | refine w_op ?_ | refine w_chain ?_ | refine w_nil ?_ | refine w_cons ?_ | refine w_tup ?_ | refine w_lst ?_
  | (apply w_len; (· wtm_at "nn")) | refine w_call ?_ | refine w_cb ?_ | refine w_isN ?_ | refine w_notN ?_ | refine w_fz ?_
  | refine w_add ?_ | refine w_sub ?_ | refine w_lt ?_ | refine w_le ?_ | refine w_gt ?_ | refine w_ge ?_ | (apply w_mod; (· wtm_at "nn")) | (apply w_div; (· wtm_at "nn"); (· wtm_at "nn"))
  | (apply w_eq; (· with_unfolding_all rfl)) | (apply w_ne; (· with_unfolding_all rfl))
  | (apply w_ixT; (· with_unfolding_all rfl)) | (apply w_ixL; (· wtm_at "gl"); (· with_unfolding_all rfl))
  | refine w_lenT ?_ | (apply w_lenL; (· wtm_at "gl")) | refine w_min2 ?_ | refine w_max2 ?_ | refine w_intB ?_ | (apply w_tupleL; (· wtm_at "gl"))
  | refine w_bm ?_ | refine w_bm0 ?_ | (apply w_ty; (· wtm_at "gl"))
  | (apply w_setL; (· wtm_at "lk"); (· with_unfolding_all rfl)) | (apply w_append; (· wtm_at "lk"); (· wtm_at "nn")) | (apply w_extend; (· wtm_at "lk"); (· wtm_at "gl"); (· wtm_at "nn"))
  | refine w_hcons ?_ | refine w_hnil ?_ | refine w_hname ?_ | (apply w_exT; (· with_unfolding_all rfl))
  | refine w_lcR1 ?_ | refine w_lcL ?_ | refine w_lcT ?_ | refine w_forR1 ?_ | refine w_forR2 ?_ | refine w_forL ?_ | refine w_forT ?_ | refine w_yes ?_ | refine w_cnm ?_ | (apply w_ctp; (· with_unfolding_all rfl))
  | (apply w_exL; (· wtm_at "gl")) | refine w_exTu ?_ | (apply w_exI; (· wtm_at "nn")) | (apply w_exI2; (· wtm_at "nn")) | refine w_exII ?_
  | refine w_dget ?_ | refine w_din ?_ | refine w_dget1 ?_ | refine w_dput ?_ | refine w_dpop1 ?_ | refine w_lenSet ?_ | refine w_listRng ?_ | refine w_notInRng ?_
  | (apply w_inK; (· wtm_at "dk"); (· with_unfolding_all rfl)) | (apply w_inT; (· wtm_at "dk"); (· with_unfolding_all rfl))
  | (apply w_isK; (· wtm_at "dk")) | (apply w_isT; (· wtm_at "dk"))
  | (apply w_putK; (· wtm_at "lk"); (· with_unfolding_all rfl); (· wtm_at "nn")) | (apply w_putT; (· wtm_at "lk"); (· with_unfolding_all rfl); (· wtm_at "nn")))
local macro_rules | `(tactic| wtm_at "x") => `(tactic| with_reducible first
  | (apply w_taken; (· wtm_at "lk"); (· wtm_at "nn"); (· wtm_at "nn")) | (apply w_eqD; (· wtm_at "vl"); (· wtm_at "vl"); (· wtm_at "pl"); (· wtm_at "pl")) | (apply w_neD; (· wtm_at "vl"); (· wtm_at "vl"); (· wtm_at "pl"); (· wtm_at "pl"))
  | (refine vR_frz (by assumption) ?_) | refine frz_let ?_)
local macro_rules | `(tactic| wtm_at "w") => `(tactic| repeat (first | wtm_at "1" | wtm_at "x"))
theorem r_L_taken {K : PySem.W.Frag} : Rd 4 (b_L_taken K) (sp_L_taken K) := by
  rintro _ G Q ⟨r, m, rfl, hr, h0, h1, q⟩
  wtm_at "st"
  intro F H σ is hg
  obtain ⟨G1, sc, ns, i, sd, rs, ⟨b1, b2, b3, b4⟩, h2, h3, hg1, hc⟩ := row_open hg hr
  refine ⟨F, _, G1, Ext.refl F H, is, hg1, ?_⟩
  unfold b_L_taken
  wtm_at "w"
  refine w_ite (fun c => ?_) (fun c => ?_)
  · wtm_at "w"
    exact vR_to (fun F' H' g => hc F' H' i sd (rs / m) ⟨b1, b2, b3, Int.ediv_nonneg (by omega) (by omega)⟩ g) (q _ (Int.emod_nonneg _ (by omega)) (Int.emod_lt_of_pos _ h0))
  · wtm_at "w"
    refine w_lenS (h3 _) ?_
    wtm_at "w"
    have hm0 : ∀ z : Int, 0 ≤ z % 2147483647 := fun z => Int.emod_nonneg _ (by decide)
    have hm1 : ∀ z : Int, z % 2147483647 < 2147483647 := fun z => Int.emod_lt_of_pos _ (by decide)
    refine w_ite (fun c2 => ?_) (fun c2 => ?_)
    · wtm_at "w"
      refine w_mul (.inr (by omega)) ?_
      wtm_at "w"
      simp only [ud_ud]
      exact vR_to (fun F' H' g => hc F' H' (i + 1) _ rs ⟨by omega, hm0 _, hm1 _, b4⟩ g) (q _ (Int.emod_nonneg _ (by omega)) (Int.emod_lt_of_pos _ h0))
    · wtm_at "w"
      simp only [decide_eq_false_iff_not] at c2
      have e : atI ns (i + 1 - 1) = ns[i.toNat]? := by
        have := atI_pos (xs := ns) (i := i) b1 (by omega)
        rw [← this]
        congr 1
        omega
      have e2 : ns[i.toNat]? = some (ns[i.toNat]'(by omega)) := List.getElem?_eq_getElem (by omega)
      refine w_ixS (h3 _) (e.trans e2) ?_
      generalize ns[i.toNat]'(by omega) = cell
      wtm_at "w"
      refine w_mul (.inr (by omega)) ?_
      wtm_at "w"
      refine w_pow ⟨by decide, by decide, by decide⟩ ?_
      wtm_at "w"
      simp only [ud_ud]
      refine w_ite (fun c3 => ?_) (fun c3 => ?_)
      · wtm_at "w"
        simp only [ud_ud]
        have c4 : (10 : Int) ^ 18 ≤ cell := by simpa using c3
        exact vR_to (fun F' H' g => hc F' H' (i + 1) _ (cell / m) ⟨by omega, hm0 _, hm1 _, Int.ediv_nonneg (by omega) (by omega)⟩ g) (q _ (Int.emod_nonneg _ (by omega)) (Int.emod_lt_of_pos _ h0))
      · wtm_at "w"
        exact vR_to (fun F' H' g => hc F' H' (i + 1) _ rs ⟨by omega, hm0 _, hm1 _, b4⟩ g) (q _ (Int.emod_nonneg _ (by omega)) (Int.emod_lt_of_pos _ h0))
theorem freeD_map (us : List (Int × Int)) (b : Int) : (List.range (Int.toNat 4)).filterMap (fun (i : Nat) => if (b, (i : Int)) ∈ us then none else some (D.int (i : Int))) = (freeD us b).map D.int := by
  have e : List.range (Int.toNat 4) = [0, 1, 2, 3] := rfl
  rw [e]
  unfold freeD
  simp only [List.filterMap_cons, List.filterMap_nil, List.filter_cons, List.filter_nil, decide_eq_true_eq]
  grind
theorem r_L_free {K : PySem.W.Frag} : Rd 3 (b_L_free K) (sp_L_free K) := by
  rintro _ G Q ⟨x, us, b, rfl, hx, hl, q⟩
  wtm_at "st"
  refine vN0 ?_
  unfold b_L_free
  wtm_at "w"
  refine lc_pure (fun i => if (b, (i : Int)) ∈ us then none else some (.int (i : Int))) (by decide) (fun _ _ _ => trivial) ?_ ?_
  · rintro i d p acc N M hi rfl hp hN hM
    wtm_at "w"
    refine w_inD (lstOf_new hx hp) rfl (all_P2 us) fun c hc => ?_
    wtm_at "w"
    rw [Int.zero_add, show D.tup [D.int b, D.int (i : Int)] = P2 (b, (i : Int)) from rfl, mem_P2] at hc
    rw [bx_t]
    refine w_ite (fun h => ?_) (fun h => ?_)
    · wtm_at "w"
      rw [Int.zero_add]
      exact hN _ (if_neg (by grind))
    · exact hM (if_pos (by grind))
  · intro p hp
    wtm_at "w"
    rw [freeD_map]
    exact vR_frz hp q
local macro_rules | `(tactic| wtm_at "x") => `(tactic| with_reducible (apply w_free; (· wtm_at "gl"); (· wtm_at "nn")))
theorem r_L_link {K : PySem.W.Frag} : Rd 6 (b_L_link K) (sp_L_link K) := by
  rintro _ G Q ⟨r, u, us, a, b, rfl, hr, hu, hl, qn, q⟩
  wtm_at "st"
  refine vN0 ?_
  unfold b_L_link
  wtm_at "w"
  intro c1 hc1
  wtm_at "w"
  rw [freeD_nil] at hc1
  refine w_ite (fun h => ?_) (fun h => ?_)
  · wtm_at "w"
    refine w_iteT rfl ?_
    wtm_at "w"
    exact vR0 (qn (.inl (hc1.mp h)))
  · wtm_at "w"
    intro c2 hc2
    wtm_at "w"
    rw [freeD_nil] at hc2
    refine w_ite (fun h2 => ?_) (fun h2 => ?_)
    · wtm_at "w"
      exact vR0 (qn (.inr (hc2.mp h2)))
    · have e1 : freeD us a ≠ [] := fun z => by rw [hc1.mpr z] at h; cases h
      have e2 : freeD us b ≠ [] := fun z => by rw [hc2.mpr z] at h2; cases h2
      have l1 : 0 < (freeD us a).length := List.length_pos_iff.mpr e1
      have l2 : 0 < (freeD us b).length := List.length_pos_iff.mpr e2
      have l3 : (freeD us a).length ≤ 4 := freeD_len
      have l4 : (freeD us b).length ≤ 4 := freeD_len
      wtm_at "w"
      intro k h0 h1
      rw [List.length_map] at h1
      wtm_at "w"
      refine w_ixL rfl (map_at h0 (by omega)) ?_
      wtm_at "w"
      intro k2 h3 h4
      rw [List.length_map] at h4
      wtm_at "w"
      refine w_ixL rfl (map_at h3 (by omega)) ?_
      have m1 : (freeD us a)[k.toNat]'(by omega) ∈ freeD us a := List.getElem_mem _
      have m2 : (freeD us b)[k2.toNat]'(by omega) ∈ freeD us b := List.getElem_mem _
      generalize (freeD us a)[k.toNat]'(by omega) = x at m1 ⊢
      generalize (freeD us b)[k2.toNat]'(by omega) = y at m2 ⊢
      wtm_at "w"
      intro k3 h5 h6
      have e3 : ud G u (.sm (.lst (us.map P2 ++ [.tup [.int a, .int x], .tup [.int b, .int y]]))) = ud G u (.sm (.lst ((us ++ [(a, x), (b, y)]).map P2))) := by
        rw [List.map_append]
        rfl
      rw [e3]
      rcases (by omega : k3 = 0 ∨ k3 = 1) with rfl | rfl
      · wtm_at "w"
        exact vR0 (q x y (Mg.Lk.mk a x b y) m1 m2 (.inl rfl))
      · wtm_at "w"
        exact vR0 (q x y (Mg.Lk.mk b y a x) m1 m2 (.inr rfl))
def smD : Option Mg.Lk → D
  | none => .non
  | some l => l.d
/-- links drawn so far; the doors used -/
structure SmOk (n : Int) (us : List (Int × Int)) (ls : List Mg.Lk) : Prop where
  ok : ∀ l ∈ ls, LkOk n l
  nd : (endsL ls).Nodup
  inn : ∀ e ∈ endsL ls, e ∈ us ∧ e ≠ (n - 1, 3)
  last : (n - 1, (3 : Int)) ∈ us
theorem endsL_snoc {ls : List Mg.Lk} {l : Mg.Lk} : endsL (ls ++ [l]) = endsL ls ++ [l.e1, l.e2] := by simp [endsL]
theorem SmOk.snoc {n : Int} {us : List (Int × Int)} {ls : List Mg.Lk} {a b x y : Int} {l : Mg.Lk} (h : SmOk n us ls) (hx : x ∈ freeD us a) (hy : y ∈ freeD us b) (ne : a ≠ b) (a0 : 0 ≤ a) (an : a < n) (b0 : 0 ≤ b) (bn : b < n) (hl : l = Mg.Lk.mk a x b y ∨ l = Mg.Lk.mk b y a x) : SmOk n (us ++ [(a, x), (b, y)]) (ls ++ [l]) := by
  obtain ⟨h1, h2, h3, h4⟩ := h
  have hx := mem_freeD.mp hx
  have hy := mem_freeD.mp hy
  refine ⟨?_, ?_, ?_, by simp [h4]⟩
  · intro m hm
    rcases List.mem_append.mp hm with hm | hm
    · exact h1 m hm
    · simp only [List.mem_singleton] at hm
      subst hm
      rcases hl with rfl | rfl
      · exact ⟨ne, a0, an, b0, bn, hx.1.1, hx.1.2, hy.1.1, hy.1.2⟩
      · exact ⟨fun z => ne z.symm, b0, bn, a0, an, hy.1.1, hy.1.2, hx.1.1, hx.1.2⟩
  · rw [endsL_snoc, List.nodup_append]
    refine ⟨h2, ?_, ?_⟩
    · rcases hl with rfl | rfl <;> simp [Mg.Lk.e1, Mg.Lk.e2, ne]
      intro z; exact absurd z.symm ne
    · intro e he f hf
      have := (h3 e he).1
      rintro rfl
      rcases hl with rfl | rfl <;> simp only [Mg.Lk.e1, Mg.Lk.e2, List.mem_cons, List.not_mem_nil, or_false] at hf <;> grind
  · intro e he
    rw [endsL_snoc] at he
    rcases List.mem_append.mp he with he | he
    · exact ⟨by simp [(h3 e he).1], (h3 e he).2⟩
    · rcases hl with rfl | rfl <;> simp only [Mg.Lk.e1, Mg.Lk.e2, List.mem_cons, List.not_mem_nil, or_false] at he <;> grind
theorem endsL_perm {ls ms : List Mg.Lk} (h : ls.Perm ms) : (endsL ls).Perm (endsL ms) := h.flatMap_right _
theorem endsL_sub {ls ms : List Mg.Lk} (h : ls.Sublist ms) : (endsL ls).Sublist (endsL ms) := by
  induction h with
  | slnil => exact List.Sublist.slnil
  | cons a _ ih => exact ih.trans (by simp [endsL])
  | cons_cons a _ ih => exact (List.Sublist.refl [a.e1, a.e2]).append ih
theorem SmOk.web {n : Int} {us : List (Int × Int)} {ls sub ms : List Mg.Lk} (h : SmOk n us ms) (h1 : sub.Sublist ms) (h2 : ls.Perm sub) (n1 : 1 ≤ n) (n6 : n ≤ 6) (len : ls.length ≤ 10) : WebOk n ls := by
  have hs : ∀ e ∈ endsL ls, e ∈ endsL ms := fun e he => (endsL_sub h1).subset ((endsL_perm h2).subset he)
  refine ⟨n1, n6, len, fun l hl => h.ok l (h1.subset (h2.subset hl)), ?_, n - 1, by omega, by omega, fun z => (h.inn _ (hs _ z)).2 rfl⟩
  exact (endsL_perm h2).nodup_iff.mpr ((endsL_sub h1).nodup h.nd)
theorem forest_of {ls sub ms : List Mg.Lk} (h : Forest ms) (h1 : sub.Sublist ms) (h2 : ls.Perm sub) : Forest ls := by
  unfold Forest at h ⊢
  exact (h2.map _).nodup_iff.mpr ((h1.map _).nodup h)
theorem ins_perm {α : Type} (xs : List α) (k : Nat) (y : α) : (xs.take k ++ [y] ++ xs.drop k).Perm (xs ++ [y]) := by
  have h1 : (xs.take k ++ [y] ++ xs.drop k).Perm (xs.take k ++ xs.drop k ++ [y]) := by
    rw [List.append_assoc, List.append_assoc]
    exact (List.Perm.refl _).append List.perm_append_comm
  rwa [List.take_append_drop] at h1
theorem otherBox {n a t : Int} (h0 : 0 ≤ a) (h1 : a < n) (t0 : 0 ≤ t) (t1 : t < n - 1) : a ≠ (a + 1 + t) % n ∧ 0 ≤ (a + 1 + t) % n ∧ (a + 1 + t) % n < n := by
  have e : (a + 1 + t) % n = if a + 1 + t < n then a + 1 + t else a + 1 + t - n := by
    split
    · exact Int.emod_eq_of_lt (by omega) (by omega)
    · rw [← Int.sub_emod_right, Int.emod_eq_of_lt (by omega) (by omega)]
  rw [e]
  split <;> omega
theorem w_link {K : PySem.W.Frag} {G : Gp} {Q : DK} {r u : Addr} {us : List (Int × Int)} {a b : Int} (hr : G r = some (gRow K)) (hu : G u = some (.sm (.lst (us.map P2)))) (hl : us.length ≤ 500) (q0 : Q .non G)
    (q : ∀ x y l, x ∈ freeD us a → y ∈ freeD us b → (l = Mg.Lk.mk a x b y ∨ l = Mg.Lk.mk b y a x) → Q l.d (ud G u (.sm (.lst ((us ++ [(a, x), (b, y)]).map P2))))) : sp_L_link K [.ref r, .ref u, .int a, .int b] G Q := ⟨r, u, us, a, b, rfl, hr, hu, hl, fun _ => q0, q⟩
theorem r_L_web {K : PySem.W.Frag} : Rd 10 (b_L_web K) (sp_L_web K) := by
  rintro _ G Q ⟨r, R, rfl, hr, R0, R6, q⟩
  wtm_at "st"
  refine vN0 ?_
  unfold b_L_web
  wtm_at "w"
  intro b0 hb0 hb6
  wtm_at "w"
  intro u hu
  wtm_at "w"
  intro s hs
  have hur : r ≠ u := fun z => by rw [← z, hr] at hu; cases hu
  have hsu : s ≠ u := fun z => by rw [z, ud_same] at hs; cases hs
  have hs0 : G s = none := by rw [ud_ne hsu] at hs; exact hs
  have hsr : r ≠ s := fun z => by rw [← z, hr] at hs0; cases hs0
  wtm_at "w"
  generalize hn : 1 + b0 = n
  have n1 : 1 ≤ n := by omega
  have n6 : n ≤ 6 := by omega
  -- the state: the doors used, what was drawn
  let S : List (Int × Int) × List (Option Mg.Lk) → DSt := fun _ => [some (.ref r), some (.int R), some (.int n), some (.ref u), some (.ref s), none, none, none, none, none]
  let GG : List (Int × Int) × List (Option Mg.Lk) → Gp := fun a => ud (ud G u (.sm (.lst (a.1.map P2)))) s (.sm (.lst (a.2.map smD)))
  have gr : ∀ a, GG a r = some (gRow K) := fun a => by show ud (ud G u _) s _ r = _; rw [ud_ne hsr, ud_ne hur]; exact hr
  have gu : ∀ a, GG a u = some (.sm (.lst (a.1.map P2))) := fun a => by show ud (ud G u _) s _ u = _; rw [ud_ne (Ne.symm hsu), ud_same]
  have gs : ∀ a, GG a s = some (.sm (.lst (a.2.map smD))) := fun a => ud_same
  have gu2 : ∀ (a : List (Int × Int) × List (Option Mg.Lk)) us', ud (GG a) u (.sm (.lst (us'.map P2))) = GG (us', a.2) := fun a us' => by
    show ud (ud (ud G u _) s _) u _ = ud (ud G u _) s _
    rw [ud_comm hsu, ud_ud]
  have gs2 : ∀ (a : List (Int × Int) × List (Option Mg.Lk)) o, ud (GG a) s (.sm (.lst (a.2.map smD ++ [smD o]))) = GG (a.1, a.2 ++ [o]) := fun a o => by
    show ud (ud (ud G u _) s _) s _ = ud (ud G u _) s _
    rw [ud_ud, List.map_append]
    rfl
  refine for_st (fun i a => SmOk n a.1 (a.2.filterMap id) ∧ a.1.length = 1 + 2 * (a.2.filterMap id).length ∧ a.2.length ≤ i ∧ Forest (a.2.filterMap id) ∧ ∀ l ∈ a.2.filterMap id, max l.a l.b < 1 + (i : Int)) S GG ([(n - 1, 3)], []) ?_ rfl rfl (fun _ _ _ _ => trivial) ?_ ?_
  · exact ⟨⟨by simp, by simp [endsL], by simp [endsL], by simp⟩, by simp, by simp, by simp [Forest], by simp⟩
  · rintro i d ⟨us, sm⟩ hi rfl ⟨w1, w2, w3, w4, w5⟩
    dsimp only at w1 w2 w3 w4 w5
    wtm_at "w"
    intro k k0 k1
    wtm_at "w"
    refine w_ite (fun c => ?_) (fun c => ?_)
    · wtm_at "w"
      intro k2 k20 k21
      have hlen : (sm.filterMap id).length ≤ sm.length := List.length_filterMap_le _ _
      wtm_at "w"
      refine w_link (gr _) (gu _) (show us.length ≤ 500 by omega) ?_ ?_
      · wtm_at "w"
        refine w_st (us, sm ++ [none]) ⟨by simpa using w1, by simpa using w2, by simp; omega, by simpa using w4, fun l hl => ?_⟩ (.keep (.keep (.keep (.keep (.keep (.drop .refl)))))) ?_
        · have := w5 l (by simpa using hl)
          omega
        · rw [show D.non = smD none from rfl, gs2]
          exact fun _ _ h => h
      · intro x y l hx hy hl
        wtm_at "w"
        refine w_st (us ++ [(k2, x), (1 + (i : Int), y)], sm ++ [some l]) ⟨?_, ?_, by simp; omega, ?_, fun m hm => ?_⟩ (.keep (.keep (.keep (.keep (.keep (.drop .refl)))))) ?_
        · simp only [List.filterMap_append, List.filterMap_cons, id, List.filterMap_nil]
          exact w1.snoc hx hy (by omega) (by omega) (by omega) (by omega) (by omega) hl
        · simp only [List.filterMap_append, List.filterMap_cons, id, List.filterMap_nil, List.length_append, List.length_cons, List.length_nil] at w2 ⊢
          omega
        · unfold Forest at w4 ⊢
          simp only [List.filterMap_append, List.filterMap_cons, id, List.filterMap_nil, List.map_append, List.map_cons, List.map_nil]
          rw [List.nodup_append]
          refine ⟨w4, by simp, ?_⟩
          intro e he f hf
          simp only [List.mem_singleton] at hf
          obtain ⟨m, hm, rfl⟩ := List.mem_map.mp he
          have := w5 m hm
          have e2 : max l.a l.b = 1 + (i : Int) := by rcases hl with rfl | rfl <;> simp only <;> omega
          omega
        · simp only [List.filterMap_append, List.filterMap_cons, id, List.filterMap_nil, List.mem_append, List.mem_singleton] at hm
          rcases hm with hm | rfl
          · have := w5 m hm
            omega
          · have e2 : max m.a m.b = 1 + (i : Int) := by rcases hl with rfl | rfl <;> simp only <;> omega
            omega
        · rw [gu2, show l.d = smD (some l) from rfl, gs2 (us ++ [(k2, x), (1 + (i : Int), y)], sm)]
          exact fun _ _ h => h
    · wtm_at "w"
      refine w_st (us, sm) ⟨w1, w2, show sm.length ≤ i + 1 by omega, w4, fun l hl => ?_⟩ (.keep (.keep (.keep (.keep (.keep (.drop .refl)))))) fun _ _ h => h
      have := w5 l hl
      omega
  · rintro ⟨us, sm⟩ ⟨w1, w2, w3, w4, w5⟩
    dsimp only at w1 w2 w3 w4 w5
    have hlen : (sm.filterMap id).length ≤ sm.length := List.length_filterMap_le _ _
    have hsm : sm.length ≤ 5 := by omega
    wtm_at "w"
    intro kr kr0 kr1
    wtm_at "w"
    refine w_mul (.inl (by omega)) ?_
    wtm_at "w"
    generalize hj : kr * (if decide (1 < n) = true then (1 : Int) else 0) = j
    have hj0 : 0 ≤ j ∧ j ≤ 6 ∧ (0 < j → 1 < n ∧ 0 < R) := by
      by_cases hn2 : 1 < n
      · rw [decide_eq_true hn2, if_pos rfl] at hj
        omega
      · rw [decide_eq_false hn2, if_neg Bool.false_ne_true] at hj
        omega
    wtm_at "w"
    refine for_st (fun i a => SmOk n a.1 (a.2.filterMap id) ∧ a.1.length = 1 + 2 * (a.2.filterMap id).length ∧ a.2.length ≤ 5 + i ∧ (R = 0 → Forest (a.2.filterMap id))) S GG (us, sm) ⟨w1, w2, by omega, fun _ => w4⟩ rfl rfl (fun _ _ _ _ => trivial) ?_ ?_
    · rintro i d ⟨us, sm⟩ hi rfl ⟨w1, w2, w3, w4⟩
      dsimp only at w1 w2 w3 w4
      obtain ⟨hn2, hR⟩ := hj0.2.2 (by omega)
      wtm_at "w"
      intro a a0 a1
      wtm_at "w"
      intro t t0 t1
      wtm_at "w"
      obtain ⟨o1, o2, o3⟩ := otherBox a0 a1 t0 t1
      generalize (a + 1 + t) % n = b at o1 o2 o3 ⊢
      have hlen : (sm.filterMap id).length ≤ sm.length := List.length_filterMap_le _ _
      refine w_link (gr _) (gu _) (show us.length ≤ 500 by omega) ?_ ?_
      · wtm_at "w"
        refine w_st (us, sm ++ [none]) ⟨by simpa using w1, by simpa using w2, by simp; omega, fun z => by omega⟩ (.keep (.keep (.keep (.keep (.keep (.keep (.drop (.drop .refl)))))))) ?_
        rw [show D.non = smD none from rfl, gs2]
        exact fun _ _ h => h
      · intro x y l hx hy hl
        wtm_at "w"
        refine w_st (us ++ [(a, x), (b, y)], sm ++ [some l]) ⟨?_, ?_, by simp; omega, fun z => by omega⟩ (.keep (.keep (.keep (.keep (.keep (.keep (.drop (.drop .refl)))))))) ?_
        · simp only [List.filterMap_append, List.filterMap_cons, id, List.filterMap_nil]
          exact w1.snoc hx hy o1 a0 a1 o2 o3 hl
        · simp only [List.filterMap_append, List.filterMap_cons, id, List.filterMap_nil, List.length_append, List.length_cons, List.length_nil] at w2 ⊢
          omega
        · rw [gu2, show l.d = smD (some l) from rfl, gs2 (us ++ [(a, x), (b, y)], sm)]
          exact fun _ _ h => h
    · rintro ⟨us, sm⟩ ⟨w1, w2, w3, w4⟩
      dsimp only at w1 w2 w3 w4
      have hlen : (sm.filterMap id).length ≤ sm.length := List.length_filterMap_le _ _
      have hsm : sm.length ≤ 11 := by omega
      wtm_at "w"
      intro l hl
      have hls : l ≠ s := fun z => by rw [z, gs] at hl; cases hl
      have hlr : r ≠ l := fun z => by rw [← z, gr] at hl; cases hl
      wtm_at "w"
      let S2 : List Mg.Lk → DSt := fun _ => [some (.ref r), some (.int R), some (.int n), some (.ref u), some (.ref s), none, none, none, some (.ref l), none]
      let GG2 : List Mg.Lk → Gp := fun ls => ud (GG (us, sm)) l (.sm (.lst (ls.map Mg.Lk.d)))
      have g2s : ∀ a, GG2 a s = some (.sm (.lst (sm.map smD))) := fun a => (ud_ne (Ne.symm hls)).trans (gs _)
      have g2r : ∀ a, GG2 a r = some (gRow K) := fun a => (ud_ne hlr).trans (gr _)
      have g2l : ∀ a, GG2 a l = some (.sm (.lst (a.map Mg.Lk.d))) := fun a => ud_same
      refine for_st (fun i ls => ∃ sub, List.Sublist sub ((sm.take i).filterMap id) ∧ ls.Perm sub ∧ ls.length ≤ 10) S2 GG2 [] ⟨[], by simp, .refl _, by simp⟩ rfl rfl (fun i a _ _ => lst_ref (g2s a)) ?_ ?_
      · rintro i d ls hi hit ⟨sub, v1, v2, v3⟩
        rw [List.length_map] at hi
        rw [List.getElem?_map, List.getElem?_eq_getElem hi] at hit
        simp only [Option.map_some, Option.some.injEq] at hit
        subst hit
        have et : (sm.take (i + 1)).filterMap id = (sm.take i).filterMap id ++ (match sm[i] with | none => [] | some l => [l]) := by
          rw [List.take_succ, List.getElem?_eq_getElem hi, List.filterMap_append]
          cases sm[i] <;> rfl
        cases e : sm[i] with
        | none =>
          rw [e] at et
          have e2 : smD (none : Option Mg.Lk) = .non := rfl
          rw [e2]
          wtm_at "w"
          refine w_iteF rfl ?_
          refine w_iteF rfl ?_
          wtm_at "w"
          exact w_st ls ⟨sub, by rw [et]; simpa using v1, v2, v3⟩ (.keep (.keep (.keep (.keep (.keep (.keep (.keep (.keep (.keep (.drop .refl)))))))))) fun _ _ h => h
        | some m =>
          rw [e] at et
          have e2 : smD (some m) = m.d := rfl
          rw [e2]
          wtm_at "w"
          refine w_iteT rfl ?_
          wtm_at "w"
          rw [List.length_map]
          refine w_ite (fun c => ?_) (fun c => ?_)
          · have c2 : ls.length < 10 := by have := of_decide_eq_true c; omega
            wtm_at "w"
            intro k k0 k1
            rw [List.length_map] at k1
            wtm_at "w"
            refine w_insert (g2l _) (by rw [List.length_map]; omega) k0 (by omega) ?_
            wtm_at "w"
            refine w_st (ls.take k.toNat ++ [m] ++ ls.drop k.toNat) ⟨sub ++ [m], ?_, ?_, ?_⟩ (.keep (.keep (.keep (.keep (.keep (.keep (.keep (.keep (.keep (.drop .refl)))))))))) ?_
            · rw [et]
              exact v1.append (List.Sublist.refl _)
            · exact (ins_perm ls k.toNat m).trans (v2.append (List.Perm.refl _))
            · have := (ins_perm ls k.toNat m).length_eq
              rw [this, List.length_append]
              simp
              omega
            · show ∀ b x, ud (GG (us, sm)) l _ b = some x → ud (ud (GG (us, sm)) l _) l _ b = some x
              rw [ud_ud, List.map_append, List.map_append, List.map_take, List.map_drop]
              exact fun _ _ h => h
          · wtm_at "w"
            exact w_st ls ⟨sub, by rw [et]; exact v1.trans (List.sublist_append_left ..), v2, v3⟩ (.keep (.keep (.keep (.keep (.keep (.keep (.keep (.keep (.keep (.drop .refl)))))))))) fun _ _ h => h
      · rintro ls ⟨sub, v1, v2, v3⟩
        rw [List.length_map, List.take_length] at v1
        wtm_at "w"
        refine vR_sub ?_ (q n ls (w1.web v1 v2 n1 n6 v3) fun z => forest_of (w4 z) v1 v2)
        intro a x ha
        have hal : a ≠ l := fun z => by
          rw [z] at ha
          have : GG (us, sm) l = none := hl
          by_cases e : l = u
          · rw [e, hu] at ha; cases ha
          · rw [show GG (us, sm) l = ud (ud G u _) s _ l from rfl, ud_ne hls, ud_ne e, ha] at this
            cases this
        have has : a ≠ s := fun z => by rw [z, hs0] at ha; cases ha
        have hau : a ≠ u := fun z => by rw [z, hu] at ha; cases ha
        show ud (ud (ud G u _) s _) l _ a = some x
        rw [ud_ne hal, ud_ne has, ud_ne hau]
        exact ha
end Dg

namespace Dg
open PySem PySem.Spec L2

local macro_rules | `(tactic| wtm_at "ne") => `(tactic| first | assumption | (apply Ne.symm; assumption) | (grind [ud, er]))
local macro_rules | `(tactic| wtm_at "lk") => `(tactic| first | (with_reducible assumption) | (with_reducible exact ud_same) | ((with_reducible refine (ud_ne (by wtm_at "ne")).trans ?_); wtm_at "lk"))
local macro_rules | `(tactic| wtm_at "gl") => `(tactic| first | (with_reducible assumption) | (with_reducible exact lst_ref (by wtm_at "lk")) | (with_reducible exact lstOf_new (by assumption) (by assumption)) | (with_unfolding_all exact rfl))
local macro_rules | `(tactic| wtm_at "vl") => `(tactic| first | (with_reducible exact val_ref (by wtm_at "lk")) | (with_unfolding_all exact rfl))
local macro_rules | `(tactic| wtm_at "dk") => `(tactic| with_reducible first | exact dK_own (by wtm_at "lk") | exact dK_lk (by wtm_at "lk") | exact dT_own (by wtm_at "lk"))
local macro_rules | `(tactic| wtm_at "pl") => `(tactic| with_unfolding_all first | exact rfl | exact all_int _ | exact all_P2 _ | assumption)
local macro_rules | `(tactic| wtm_at "nn") => `(tactic| first | omega | decide | (simp only [List.length_cons, List.length_nil, List.length_map, List.length_append]; omega) | grind)
local macro_rules | `(tactic| wtm_at "st") => `(tactic| (simp only [stD, List.map_cons, List.map_nil, List.length_cons, List.length_nil, List.replicate, Nat.reduceAdd, Nat.reduceSub, List.cons_append, List.nil_append]))
local macro_rules | `(tactic| wtm_at "1") => `(tactic| with_reducible first
  | refine w_seq ?_ | refine w_asgN ?_ | refine w_asgS ?_ | refine w_asgT ?_ | refine w_ret ?_ | refine w_drop ?_ | refine w_ifS ?_ | refine w_test ?_ | refine w_next ?_
  | refine w_nx ?_ | refine w_nx0 ?_ | refine w_rt ?_ | refine w_bk ?_ | refine w_ct ?_
  | refine w_bl2 ?_ | refine w_and ?_ | refine w_or ?_ | refine w_not ?_ | refine w_andV ?_ | refine w_orV ?_ | refine w_notV ?_ | refine w_if ?_
  | (apply w_var; (· with_unfolding_all rfl)) | refine w_c ?_ | refine w_op ?_ | refine w_chain ?_ | refine w_nil ?_ | refine w_cons ?_ | refine w_tup ?_ | refine w_lst ?_
  | (apply w_len; (· wtm_at "nn")) | refine w_call ?_ | refine w_cb ?_ | refine w_isN ?_ | refine w_notN ?_ | refine w_fz ?_
  | refine w_add ?_ | refine w_sub ?_ | refine w_lt ?_ | refine w_le ?_ | refine w_gt ?_ | refine w_ge ?_ | (apply w_mod; (· wtm_at "nn")) | (apply w_div; (· wtm_at "nn"); (· wtm_at "nn"))
  | (apply w_eq; (· with_unfolding_all rfl)) | (apply w_ne; (· with_unfolding_all rfl))
  | (apply w_ixT; (· with_unfolding_all rfl)) | (apply w_ixL; (· wtm_at "gl"); (· with_unfolding_all rfl))
  | refine w_lenT ?_ | (apply w_lenL; (· wtm_at "gl")) | refine w_min2 ?_ | refine w_max2 ?_ | refine w_intB ?_ | (apply w_tupleL; (· wtm_at "gl"))
  | refine w_bm ?_ | refine w_bm0 ?_ | (apply w_ty; (· wtm_at "gl"))
  | (apply w_setL; (· wtm_at "lk"); (· with_unfolding_all rfl)) | (apply w_append; (· wtm_at "lk"); (· wtm_at "nn")) | (apply w_extend; (· wtm_at "lk"); (· wtm_at "gl"); (· wtm_at "nn"))
  | refine w_hcons ?_ | refine w_hnil ?_ | refine w_hname ?_ | (apply w_exT; (· with_unfolding_all rfl))
  | refine w_lcR1 ?_ | refine w_lcL ?_ | refine w_lcT ?_ | refine w_forR1 ?_ | refine w_forR2 ?_ | refine w_forL ?_ | refine w_forT ?_ | refine w_yes ?_ | refine w_cnm ?_ | (apply w_ctp; (· with_unfolding_all rfl))
  | (apply w_exL; (· wtm_at "gl")) | refine w_exTu ?_ | (apply w_exI; (· wtm_at "nn")) | (apply w_exI2; (· wtm_at "nn")) | refine w_exII ?_
  | refine w_dget ?_ | refine w_din ?_ | refine w_dget1 ?_ | refine w_dput ?_ | refine w_dpop1 ?_ | refine w_lenSet ?_ | refine w_listRng ?_ | refine w_notInRng ?_
  | (apply w_inK; (· wtm_at "dk"); (· with_unfolding_all rfl)) | (apply w_inT; (· wtm_at "dk"); (· with_unfolding_all rfl))
  | (apply w_isK; (· wtm_at "dk")) | (apply w_isT; (· wtm_at "dk"))
  | (apply w_putK; (· wtm_at "lk"); (· with_unfolding_all rfl); (· wtm_at "nn")) | (apply w_putT; (· wtm_at "lk"); (· with_unfolding_all rfl); (· wtm_at "nn")))
local macro_rules | `(tactic| wtm_at "x") => `(tactic| with_reducible first
  | (apply w_taken; (· wtm_at "lk"); (· wtm_at "nn"); (· wtm_at "nn")) | (apply w_eqD; (· wtm_at "vl"); (· wtm_at "vl"); (· wtm_at "pl"); (· wtm_at "pl")) | (apply w_neD; (· wtm_at "vl"); (· wtm_at "vl"); (· wtm_at "pl"); (· wtm_at "pl"))
  | (refine vR_frz (by assumption) ?_) | refine frz_let ?_)
local macro_rules | `(tactic| wtm_at "w") => `(tactic| repeat (first | wtm_at "1" | wtm_at "x"))
theorem vR_bl {Q : DK} {G : Gp} {b c : Bool} (q : Q (.bl c) G) (h : b = c) : vR Q (.bl b) G := by
  rw [h]
  exact vR0 q
theorem ls_at {ls : List Mg.Lk} {k : Int} {l : Mg.Lk} (h : Mg.getI ls k = some l) : atI (ls.map Mg.Lk.d) k = some l.d := by
  unfold Mg.getI at h
  split at h
  · rename_i h0
    have hl : k.toNat < ls.length := by
      rcases Nat.lt_or_ge k.toNat ls.length with z | z
      · exact z
      · rw [List.getElem?_eq_none z] at h
        cases h
    rw [atI_pos h0 (by rw [List.length_map]; omega), List.getElem?_map, h]
    rfl
  · cases h
theorem getI_nat {ls : List Mg.Lk} {i : Nat} (h : i < ls.length) : Mg.getI ls (i : Int) = some ls[i] := by
  unfold Mg.getI
  rw [if_pos (by omega), Int.toNat_natCast, List.getElem?_eq_getElem h]
theorem getI_ok {ls : List Mg.Lk} {k : Int} (h0 : 0 ≤ k) (h1 : k < ls.length) : ∃ l, Mg.getI ls k = some l := by
  unfold Mg.getI
  rw [if_pos h0]
  exact ⟨_, List.getElem?_eq_getElem (by omega)⟩
theorem r_is_door {K : PySem.W.Frag} : Rd 3 (b_is_door K) (sp_is_door K) := by
  rintro _ G Q ⟨n, b, d, rfl, q⟩
  wtm_at "st"
  refine vN0 ?_
  unfold b_is_door
  wtm_at "w"
  refine w_ite (fun c => ?_) (fun c => ?_) <;> wtm_at "w"
  · refine w_ite (fun c2 => ?_) (fun c2 => ?_) <;> wtm_at "w"
    · refine w_ite (fun c3 => ?_) (fun c3 => ?_) <;> wtm_at "w"
      · exact vR_bl q (by grind)
      · exact vR_bl q (by grind)
    · exact vR_bl q (by grind)
  · refine w_iteF rfl ?_
    wtm_at "w"
    exact vR_bl q (by grind)
local macro_rules | `(tactic| wtm_at "x") => `(tactic| with_reducible (refine ⟨_, _, _, rfl, ?_⟩))
theorem w_is_door {K : PySem.W.Frag} {n b d : Int} {G : Gp} {Q : DK} (h : (0 ≤ b ∧ b < n) ∧ 0 ≤ d ∧ d < 4) (q : Q (.bl true) G) : sp_is_door K [.int n, .int b, .int d] G Q := ⟨n, b, d, rfl, by rw [decide_eq_true h]; exact q⟩
theorem r_need_web {K : PySem.W.Frag} : Rd 12 (b_need_web K) (sp_need_web K) := by
  rintro _ G Q ⟨n, ls, rfl, hw, q⟩
  wtm_at "st"
  refine vN0 ?_
  unfold b_need_web
  wtm_at "w"
  have hn1 := hw.n1
  have hn6 := hw.n6
  have hl10 := hw.len
  refine w_iteT (decide_eq_true hn1) ?_
  wtm_at "w"
  refine w_iteF (by simpa using hn6) ?_
  wtm_at "w"
  intro p hp
  wtm_at "w"
  rw [List.length_map]
  wtm_at "w"
  have hj : ((ls.length : Nat) : Int).toNat = ls.length := Int.toNat_natCast _
  rw [hj]
  refine for_st (fun i a => a = i) (fun _ => [some (webD n ls), some (.int n), some (lsD ls), some (.ref p), none, none, none, none, none, none, none, none]) (fun i => ud G p (.sm (.lst ((endsL (ls.take i)).map P2)))) 0 rfl rfl rfl (fun _ _ _ _ => trivial) ?_ ?_
  · rintro _ d i hi rfl rfl
    have hm : ls[i] ∈ ls := List.getElem_mem hi
    obtain ⟨k1, k2, k3, k4, k5, k6, k7, k8, k9⟩ := hw.ok _ hm
    rw [Int.zero_add]
    wtm_at "w"
    refine w_ixT (ls_at (getI_nat hi)) ?_
    have hends : endsL (ls.take (i + 1)) = endsL (ls.take i) ++ [ls[i].e1, ls[i].e2] := by
      rw [List.take_succ, List.getElem?_eq_getElem hi]
      exact endsL_snoc
    have hnd : (endsL (ls.take (i + 1))).Nodup := (endsL_sub (List.take_sublist _ _)).nodup hw.nd
    rw [hends, List.nodup_append] at hnd
    have hlen : (endsL (ls.take i)).length ≤ 20 := by
      have : ∀ ms : List Mg.Lk, (endsL ms).length = 2 * ms.length := fun ms => by
        induction ms with
        | nil => rfl
        | cons m ms ih => simp [endsL] at ih ⊢; omega
      rw [this, List.length_take]
      omega
    generalize ls[i] = l at *
    wtm_at "w"
    intro t ht
    have htp : t ≠ p := fun z => by rw [z, ud_same] at ht; cases ht
    wtm_at "w"
    refine w_iteT (decide_eq_true (by omega)) ?_
    wtm_at "w"
    refine w_iteT (by simpa using k1) ?_
    wtm_at "w"
    refine w_is_door ⟨⟨k2, k3⟩, k6, k7⟩ ?_
    wtm_at "w"
    refine w_iteT rfl ?_
    wtm_at "w"
    refine w_is_door ⟨⟨k4, k5⟩, k8, k9⟩ ?_
    wtm_at "w"
    refine w_iteF rfl ?_
    wtm_at "w"
    refine lc_pure (fun _ => none) (by simp) (fun q acc hq => ?_) ?_ ?_
    · wtm_at "gl"
    · rintro j d q acc N M hj hit hq hN hM
      have hqt : p ≠ q := fun z => by rw [← z, ud_ne (Ne.symm htp), ud_same] at hq; cases hq
      wtm_at "w"
      have hd : d = P2 l.e1 ∨ d = P2 l.e2 := by
        have := List.mem_of_getElem? hit
        simpa [Mg.Lk.e1, Mg.Lk.e2] using this
      refine w_inD (ds := (endsL (ls.take i)).map P2) (by wtm_at "gl") (by rcases hd with rfl | rfl <;> rfl) (all_P2 _) fun c hc => ?_
      wtm_at "w"
      refine w_iteF ?_ (hM rfl)
      rw [bx_f]
      have hnot : d ∉ (endsL (ls.take i)).map P2 := by
        rcases hd with rfl | rfl
        · rw [mem_P2]
          exact fun z => hnd.2.2 _ z l.e1 (by simp) rfl
        · rw [mem_P2]
          exact fun z => hnd.2.2 _ z l.e2 (by simp) rfl
      cases c with
      | false => rfl
      | true => exact absurd (hc.mp rfl) hnot
    · intro q hq
      wtm_at "w"
      have e0 : List.filterMap (fun (_ : Nat) => (none : Option D)) (List.range [D.tup [D.int l.a, D.int l.x], D.tup [D.int l.b, D.int l.y]].length) = [] := rfl
      rw [e0]
      wtm_at "w"
      intro b hb
      have hbt : b = true := hb.mpr rfl
      subst hbt
      wtm_at "w"
      refine w_iteF rfl ?_
      wtm_at "w"
      refine w_st (i + 1) rfl (.keep (.keep (.keep (.keep (.drop (.drop (.drop (.drop (.drop (.drop (.drop (.drop .refl)))))))))))) ?_
      rw [hends, List.map_append]
      intro a x ha
      have hat : a ≠ t := fun z => by
        rw [z, ud_ne htp] at ha
        rw [ud_ne htp, ha] at ht
        cases ht
      by_cases hap : a = p
      · rw [hap, ud_same] at ha ⊢
        exact ha
      · rw [ud_ne hap] at ha ⊢
        rw [ud_ne hat, ud_ne hap]
        exact ha
  · rintro _ rfl
    wtm_at "w"
    exact vR_sub (sub_new hp sub_refl) q
end Dg

namespace Dg
open PySem PySem.Spec L2

local macro_rules | `(tactic| wtm_at "ne") => `(tactic| first | assumption | (apply Ne.symm; assumption) | (grind [ud, er]))
local macro_rules | `(tactic| wtm_at "lk") => `(tactic| first | (with_reducible assumption) | (with_reducible exact ud_same) | ((with_reducible refine (ud_ne (by wtm_at "ne")).trans ?_); wtm_at "lk"))
local macro_rules | `(tactic| wtm_at "gl") => `(tactic| first | (with_reducible assumption) | (with_reducible exact lst_ref (by wtm_at "lk")) | (with_reducible exact lstOf_new (by assumption) (by assumption)) | (with_unfolding_all exact rfl))
local macro_rules | `(tactic| wtm_at "vl") => `(tactic| first | (with_reducible exact val_ref (by wtm_at "lk")) | (with_unfolding_all exact rfl))
local macro_rules | `(tactic| wtm_at "dk") => `(tactic| with_reducible first | exact dK_own (by wtm_at "lk") | exact dK_lk (by wtm_at "lk") | exact dT_own (by wtm_at "lk"))
local macro_rules | `(tactic| wtm_at "pl") => `(tactic| with_unfolding_all first | exact rfl | exact all_int _ | exact all_P2 _ | assumption)
local macro_rules | `(tactic| wtm_at "nn") => `(tactic| first | omega | decide | (simp only [List.length_cons, List.length_nil, List.length_map, List.length_append]; omega) | grind)
local macro_rules | `(tactic| wtm_at "st") => `(tactic| (simp only [stD, List.map_cons, List.map_nil, List.length_cons, List.length_nil, List.replicate, Nat.reduceAdd, Nat.reduceSub, List.cons_append, List.nil_append]))
local macro_rules | `(tactic| wtm_at "1") => `(tactic| with_reducible first
  | refine w_seq ?_ | refine w_asgN ?_ | refine w_asgS ?_ | refine w_asgT ?_ | refine w_ret ?_ | refine w_drop ?_ | refine w_ifS ?_ | refine w_test ?_ | refine w_next ?_
  | refine w_nx ?_ | refine w_nx0 ?_ | refine w_rt ?_ | refine w_bk ?_ | refine w_ct ?_
  | refine w_bl2 ?_ | refine w_and ?_ | refine w_or ?_ | refine w_not ?_ | refine w_andV ?_ | refine w_orV ?_ | refine w_notV ?_ | refine w_if ?_
  | (apply w_var; (· with_unfolding_all rfl)) | refine w_c ?_ | refine w_op ?_ | refine w_chain ?_ | refine w_nil ?_ | refine w_cons ?_ | refine w_tup ?_ | refine w_lst ?_
  | (apply w_len; (· wtm_at "nn")) | refine w_call ?_ | refine w_cb ?_ | refine w_isN ?_ | refine w_notN ?_ | refine w_fz ?_
  | refine w_add ?_ | refine w_sub ?_ | refine w_lt ?_ | refine w_le ?_ | refine w_gt ?_ | refine w_ge ?_ | (apply w_mod; (· wtm_at "nn")) | (apply w_div; (· wtm_at "nn"); (· wtm_at "nn"))
  | (apply w_eq; (· with_unfolding_all rfl)) | (apply w_ne; (· with_unfolding_all rfl))
  | (apply w_ixT; (· with_unfolding_all rfl)) | (apply w_ixL; (· wtm_at "gl"); (· with_unfolding_all rfl))
  | refine w_lenT ?_ | (apply w_lenL; (· wtm_at "gl")) | refine w_min2 ?_ | refine w_max2 ?_ | refine w_intB ?_ | (apply w_tupleL; (· wtm_at "gl"))
  | refine w_bm ?_ | refine w_bm0 ?_ | (apply w_ty; (· wtm_at "gl"))
  | (apply w_setL; (· wtm_at "lk"); (· with_unfolding_all rfl)) | (apply w_append; (· wtm_at "lk"); (· wtm_at "nn")) | (apply w_extend; (· wtm_at "lk"); (· wtm_at "gl"); (· wtm_at "nn"))
  | refine w_hcons ?_ | refine w_hnil ?_ | refine w_hname ?_ | (apply w_htup; (· with_unfolding_all rfl)) | (apply w_exT; (· with_unfolding_all rfl))
  | refine w_lcR1 ?_ | refine w_lcL ?_ | refine w_lcT ?_ | refine w_forR1 ?_ | refine w_forR2 ?_ | refine w_forL ?_ | refine w_forT ?_ | refine w_yes ?_ | refine w_cnm ?_ | (apply w_ctp; (· with_unfolding_all rfl))
  | (apply w_exL; (· wtm_at "gl")) | refine w_exTu ?_ | (apply w_exI; (· wtm_at "nn")) | (apply w_exI2; (· wtm_at "nn")) | refine w_exII ?_
  | refine w_disp ?_ | refine w_pnil ?_ | refine w_pcons ?_ | (apply w_dispE; (· wtm_at "lk"); (· with_unfolding_all rfl); (· wtm_at "nn"))
  | refine w_dget ?_ | refine w_din ?_ | refine w_dget1 ?_ | refine w_dput ?_ | refine w_dpop1 ?_ | refine w_lenSet ?_ | refine w_listRng ?_ | refine w_notInRng ?_
  | (apply w_inK; (· wtm_at "dk"); (· with_unfolding_all rfl)) | (apply w_inT; (· wtm_at "dk"); (· with_unfolding_all rfl))
  | (apply w_isK; (· wtm_at "dk")) | (apply w_isT; (· wtm_at "dk"))
  | (apply w_putK; (· wtm_at "lk"); (· with_unfolding_all rfl); (· wtm_at "nn")) | (apply w_putT; (· wtm_at "lk"); (· with_unfolding_all rfl); (· wtm_at "nn")))
local macro_rules | `(tactic| wtm_at "bb") => `(tactic| (simp only [isN, Bool.not_true, Bool.not_false, Bool.or_true, Bool.true_or, Bool.or_false, Bool.false_or, Bool.xor_true, Bool.xor_false]; done))
local macro_rules | `(tactic| wtm_at "kt") => `(tactic| with_reducible first | exact kb_tu_tu | exact kb_tu_li | exact kb_tu_bo | exact kb_tu_st | exact kb_tu_in | exact kb_li_tu | exact kb_li_li | exact kb_li_bo | exact kb_li_st | exact kb_li_in | exact kb_No_tu | exact kb_No_li | exact kb_No_bo | exact kb_No_st | exact kb_No_in | exact kb_bo_tu | exact kb_bo_li | exact kb_bo_bo | exact kb_bo_st | exact kb_bo_in | exact kb_in_tu | exact kb_in_li | exact kb_in_bo | exact kb_in_st | exact kb_in_in | exact kb_st_tu | exact kb_st_li | exact kb_st_bo | exact kb_st_st | exact kb_st_in)
local macro_rules | `(tactic| wtm_at "ty") => `(tactic| first | assumption | exact ty_ref (by wtm_at "lk") | (with_unfolding_all exact rfl))
local macro_rules | `(tactic| wtm_at "x") => `(tactic| with_reducible first
  | (apply w_taken; (· wtm_at "lk"); (· wtm_at "nn"); (· wtm_at "nn")) | (apply w_eqD; (· wtm_at "vl"); (· wtm_at "vl"); (· wtm_at "pl"); (· wtm_at "pl")) | (apply w_neD; (· wtm_at "vl"); (· wtm_at "vl"); (· wtm_at "pl"); (· wtm_at "pl"))
  | (apply vR_row; (· assumption)) | (refine vR_frz (by assumption) ?_) | refine frz_let ?_ | refine w_isi ?_ | refine w_isi2 ?_ | (apply w_isiE; (· wtm_at "ty"); (· wtm_at "kt")) | (apply w_isiE2; (· wtm_at "ty"); (· wtm_at "kt"); (· wtm_at "kt"))
  | refine w_iteT rfl ?_ | refine w_iteF rfl ?_ | (apply w_iteT; (· wtm_at "bb")) | (apply w_iteF; (· wtm_at "bb")))
local macro_rules | `(tactic| wtm_at "w") => `(tactic| repeat (first | wtm_at "1" | wtm_at "x"))
theorem w_raiseN {C : Addr} {f : Str} {E' : DXK} {t : DA} {D : DEnds} {s : DSt} {G : Gp} (h : t s G fun ds G1 => ∃ n, ds = [.int n] ∧ ∀ d, G1 d = none → E' C (some d) (xdG G1 d f n)) : dRaiseN C f E' t D s G := h
theorem w_raiseE {C : Addr} {f : Str} {E' : DXK} {G : Gp} {n : Int} (h : ∀ d, G d = none → E' C (some d) (xdG G d f n)) : ∃ m, [D.int n] = [.int m] ∧ ∀ d, G d = none → E' C (some d) (xdG G d f m) := ⟨n, rfl, h⟩
theorem w_callX {sp : DSpX} {E' : DXK} {t : DA} {s : DSt} {G : Gp} {Q : DK} (h : t s G fun ds G1 => sp ds G1 Q E') : dCallX sp E' t s G Q := h
local macro_rules | `(tactic| wtm_at "x") => `(tactic| with_reducible first
  | refine w_raiseN ?_ | refine w_raiseE ?_ | refine w_callX ?_
  | (apply w_taken; (· wtm_at "lk"); (· wtm_at "nn"); (· wtm_at "nn")) | (apply w_eqD; (· wtm_at "vl"); (· wtm_at "vl"); (· wtm_at "pl"); (· wtm_at "pl")) | (apply w_neD; (· wtm_at "vl"); (· wtm_at "vl"); (· wtm_at "pl"); (· wtm_at "pl"))
  | (apply vR_row; (· assumption)) | (refine vR_frz (by assumption) ?_) | refine frz_let ?_
  | refine w_iteT rfl ?_ | refine w_iteF rfl ?_ | (apply w_iteT; (· wtm_at "bb")) | (apply w_iteF; (· wtm_at "bb")))
/-- a body that may raise keeps a promise -/
def RdX (n : Nat) (b : DXK → DS) (sp : DSpX) : Prop := ∀ ds G Q E', sp ds G Q E' → vN (b (vX E') { nx := fun _ G' => vRt Q .non G', rt := vRt Q }) (stD n ds) G
theorem w_is_door2 {K : PySem.W.Frag} {n b d : Int} {G : Gp} {Q : DK} (q : Q (.bl (doorB n b d)) G) : sp_is_door K [.int n, .int b, .int d] G Q := ⟨n, b, d, rfl, q⟩
theorem sub_xd {G G2 : Gp} {d : Addr} {f : Str} {n : Int} (k : ∀ a x, G2 a = some x → G a = some x) : ∀ a x, xdG G2 d f n a = some x → xdG G d f n a = some x := fun a x h => by
  unfold xdG at h ⊢
  by_cases e : a = d
  · rw [e, ud_same] at h ⊢
    exact h
  · rw [ud_ne e] at h ⊢
    exact k a x h
theorem sub_none {G G2 : Gp} {d : Addr} (k : ∀ a x, G2 a = some x → G a = some x) (h : G d = none) : G2 d = none := by
  cases e : G2 d with
  | none => rfl
  | some x =>
    rw [k d x e] at h
    cases h
theorem r_need_webX {K : PySem.W.Frag} : RdX 12 (b_need_webX K) (spx_need_web K) := by
  rintro _ G Q E' ⟨n, ls, rfl, hlen, hok, hbad⟩
  wtm_at "st"
  refine vN0 ?_
  unfold b_need_webX
  wtm_at "w"
  have hneg : ¬ (1 ≤ n ∧ n ≤ 6) → ∀ d, G d = none → vX E' (cA K "BadWeb") (some d) (xdG G d "number" (0 - 1)) := fun h d hd => vX0 (hbad (-1) (badF_n h) d hd)
  refine w_ite (fun c => ?_) (fun c => ?_)
  · wtm_at "w"
    refine w_ite (fun c2 => ?_) (fun c2 => ?_)
    · wtm_at "w"
      exact hneg (by simp at c c2; omega)
    · wtm_at "w"
      have hn : 1 ≤ n ∧ n ≤ 6 := by simp at c c2; omega
      intro p hp
      wtm_at "w"
      rw [List.length_map]
      wtm_at "w"
      have hj : ((ls.length : Nat) : Int).toNat = ls.length := Int.toNat_natCast _
      rw [hj]
      refine for_st (fun i a => a = i ∧ ∀ j, j < i → badAt n ls j = false) (fun _ => [some (webD n ls), some (.int n), some (lsD ls), some (.ref p), none, none, none, none, none, none, none, none]) (fun i => ud G p (.sm (.lst ((endsL (ls.take i)).map P2)))) 0 ⟨rfl, fun j hj => by omega⟩ rfl rfl (fun _ _ _ _ => trivial) ?_ ?_
      · rintro _ d i hi rfl ⟨rfl, hno⟩
        rw [Int.zero_add]
        wtm_at "w"
        refine w_ixT (ls_at (getI_nat hi)) ?_
        have hends : endsL (ls.take (i + 1)) = endsL (ls.take i) ++ [ls[i].e1, ls[i].e2] := by
          rw [List.take_succ, List.getElem?_eq_getElem hi]
          exact endsL_snoc
        have hlen2 : (endsL (ls.take i)).length ≤ 40 := by
          have : ∀ ms : List Mg.Lk, (endsL ms).length = 2 * ms.length := fun ms => by
            induction ms with
            | nil => rfl
            | cons m ms ih => simp [endsL] at ih ⊢; omega
          rw [this, List.length_take]
          omega
        have hat := badAt_eq (n := n) hi
        have hE : badAt n ls i = true → ∀ d, G d = none → E' (cA K "BadWeb") (some d) (xdG G d "number" (i : Int)) := fun h d hd => hbad _ (badF_at hn hi hno h) d hd
        generalize hbt : badAt n ls i = bt at *
        generalize hmet : endsL (ls.take i) = met at *
        generalize hl : ls[i] = l at *
        wtm_at "w"
        intro t ht
        have htp : t ≠ p := fun z => by rw [z, ud_same] at ht; cases ht
        have hsub : ∀ a x, G a = some x → ud (ud G p (.sm (.lst (met.map P2)))) t (.sm (.lst [D.tup [.int l.a, .int l.x], D.tup [.int l.b, .int l.y]])) a = some x := sub_new ht (sub_new hp sub_refl)
        have hR : bt = true → ∀ d, ud (ud G p (.sm (.lst (met.map P2)))) t (.sm (.lst [D.tup [.int l.a, .int l.x], D.tup [.int l.b, .int l.y]])) d = none → vX E' (cA K "BadWeb") (some d) (xdG (ud (ud G p (.sm (.lst (met.map P2)))) t (.sm (.lst [D.tup [.int l.a, .int l.x], D.tup [.int l.b, .int l.y]]))) d "number" (i : Int)) :=
          fun h d hd => vX_sub (sub_xd hsub) (hE h d (sub_none hsub hd))
        wtm_at "w"
        have hfin : ∀ good : Bool, (good = false → bt = true) → (good = true → bt = (decide (l.e1 ∈ met) || decide (l.e2 ∈ met))) → True := fun _ _ _ => trivial
        have e0 : bt = (!(decide (i < 10) && decide (l.a ≠ l.b) && doorB n l.a l.x && doorB n l.b l.y) || decide (l.e1 ∈ met) || decide (l.e2 ∈ met)) := hat
        refine w_ite (fun c3 => ?_) (fun c3 => ?_)
        · wtm_at "w"
          refine w_ite (fun c4 => ?_) (fun c4 => ?_)
          · wtm_at "w"
            refine w_is_door2 ?_
            wtm_at "w"
            refine w_ite (fun c5 => ?_) (fun c5 => ?_)
            · wtm_at "w"
              refine w_is_door2 ?_
              wtm_at "w"
              refine w_ite (fun c6 => ?_) (fun c6 => ?_)
              · wtm_at "w"
                exact hR (by rw [e0]; simp at c6; simp [c6])
              · wtm_at "w"
                refine lc_pure (fun j => if ([l.e1, l.e2][j]?.map fun e => decide (e ∈ met)) = some true then [l.e1, l.e2][j]?.map P2 else none) (by simp) (fun q acc hq => ?_) ?_ ?_
                · wtm_at "gl"
                · rintro j d q acc N M hj hit hq hN hM
                  have hqt : p ≠ q := fun z => by rw [← z, ud_ne (Ne.symm htp), ud_same] at hq; cases hq
                  wtm_at "w"
                  obtain ⟨e, he, rfl⟩ : ∃ e, [l.e1, l.e2][j]? = some e ∧ P2 e = d := by
                    have h2 : ([l.e1, l.e2].map P2)[j]? = some d := hit
                    rw [List.getElem?_map] at h2
                    cases q2 : [l.e1, l.e2][j]? with
                    | none => rw [q2] at h2; cases h2
                    | some e => rw [q2] at h2; exact ⟨e, rfl, Option.some.inj h2⟩
                  rw [he] at hN hM
                  simp only [Option.map_some] at hN hM
                  refine w_inD (ds := met.map P2) (by wtm_at "gl") rfl (all_P2 _) fun c hc => ?_
                  rw [mem_P2] at hc
                  wtm_at "w"
                  rw [bx_f]
                  refine w_ite (fun c7 => ?_) (fun c7 => ?_)
                  · wtm_at "w"
                    exact hN _ (by rw [decide_eq_true (hc.mp c7)]; rfl)
                  · exact hM (by rw [decide_eq_false (fun z => by rw [hc.mpr z] at c7; cases c7)]; rfl)
                · intro q hq
                  wtm_at "w"
                  have hFL : List.filterMap (fun j => if ([l.e1, l.e2][j]?.map fun e => decide (e ∈ met)) = some true then [l.e1, l.e2][j]?.map P2 else none) (List.range [D.tup [D.int l.a, D.int l.x], D.tup [D.int l.b, D.int l.y]].length) = ([l.e1, l.e2].filter fun e => decide (e ∈ met)).map P2 := by
                    by_cases m1 : l.e1 ∈ met <;> by_cases m2 : l.e2 ∈ met <;> simp [m1, m2, List.range_succ]
                  rw [hFL]
                  wtm_at "w"
                  intro b hb
                  wtm_at "w"
                  have hb2 : b = true ↔ l.e1 ∉ met ∧ l.e2 ∉ met := by
                    rw [hb, D.lst.injEq, List.map_eq_nil_iff, List.filter_eq_nil_iff]
                    simp
                  refine w_ite (fun c7 => ?_) (fun c7 => ?_)
                  · wtm_at "w"
                    refine hR ?_
                    rw [e0]
                    cases b with
                    | true => cases c7
                    | false =>
                      by_cases m1 : l.e1 ∈ met
                      · simp [m1]
                      · by_cases m2 : l.e2 ∈ met
                        · simp [m2]
                        · exact absurd (hb2.mpr ⟨m1, m2⟩) Bool.false_ne_true
                  · have hbt2 : b = true := by simpa using c7
                    obtain ⟨m1, m2⟩ := hb2.mp hbt2
                    have hbf : bt = false := by
                      rw [e0]
                      simp at c3 c4 c5 c6
                      simp [c3, c4, c5, c6, m1, m2]
                      omega
                    wtm_at "w"
                    refine w_st (i + 1) ⟨rfl, fun j hj => ?_⟩ (.keep (.keep (.keep (.keep (.drop (.drop (.drop (.drop (.drop (.drop (.drop (.drop .refl)))))))))))) ?_
                    · rcases Nat.lt_or_ge j i with z | z
                      · exact hno j z
                      · have : j = i := by omega
                        subst this
                        rw [hbt, hbf]
                    · rw [hends, List.map_append]
                      intro a x ha
                      have hat : a ≠ t := fun z => by
                        rw [z, ud_ne htp] at ha
                        rw [ud_ne htp, ha] at ht
                        cases ht
                      by_cases hap : a = p
                      · rw [hap, ud_same] at ha ⊢
                        exact ha
                      · rw [ud_ne hap] at ha ⊢
                        rw [ud_ne hat, ud_ne hap]
                        exact ha
            · wtm_at "w"
              exact hR (by rw [e0, c5]; simp)
          · wtm_at "w"
            exact hR (by rw [e0]; simp at c4; simp [c4])
        · wtm_at "w"
          exact hR (by rw [e0]; simp at c3; simp; omega)
      · rintro _ ⟨rfl, hno⟩
        wtm_at "w"
        exact vR_sub (sub_new hp sub_refl) (hok (badF_no hn hno))
  · wtm_at "w"
    exact hneg (by simp at c; omega)
end Dg

namespace Dg
open PySem PySem.Spec L2

local macro_rules | `(tactic| wtm_at "ne") => `(tactic| first | assumption | (apply Ne.symm; assumption) | (grind [ud, er]))
local macro_rules | `(tactic| wtm_at "lk") => `(tactic| first | (with_reducible assumption) | (with_reducible exact ud_same) | ((with_reducible refine (ud_ne (by wtm_at "ne")).trans ?_); wtm_at "lk"))
local macro_rules | `(tactic| wtm_at "gl") => `(tactic| first | (with_reducible assumption) | (with_reducible exact lst_ref (by wtm_at "lk")) | (with_reducible exact lstOf_new (by assumption) (by assumption)) | (with_unfolding_all exact rfl))
local macro_rules | `(tactic| wtm_at "vl") => `(tactic| first | (with_reducible exact val_ref (by wtm_at "lk")) | (with_unfolding_all exact rfl))
local macro_rules | `(tactic| wtm_at "dk") => `(tactic| with_reducible first | exact dK_own (by wtm_at "lk") | exact dK_lk (by wtm_at "lk") | exact dT_own (by wtm_at "lk"))
local macro_rules | `(tactic| wtm_at "pl") => `(tactic| with_unfolding_all first | exact rfl | exact all_int _ | exact all_P2 _ | assumption)
local macro_rules | `(tactic| wtm_at "nn") => `(tactic| first | omega | decide | (simp only [List.length_cons, List.length_nil, List.length_map, List.length_append]; omega) | grind)
local macro_rules | `(tactic| wtm_at "st") => `(tactic| (simp only [stD, List.map_cons, List.map_nil, List.length_cons, List.length_nil, List.replicate, Nat.reduceAdd, Nat.reduceSub, List.cons_append, List.nil_append]))
local macro_rules | `(tactic| wtm_at "1") => `(tactic| with_reducible first
  | refine w_seq ?_ | refine w_asgN ?_ | refine w_asgS ?_ | refine w_asgT ?_ | refine w_ret ?_ | refine w_drop ?_ | refine w_ifS ?_ | refine w_test ?_ | refine w_next ?_
  | refine w_nx ?_ | refine w_nx0 ?_ | refine w_rt ?_ | refine w_bk ?_ | refine w_ct ?_
  | refine w_bl2 ?_ | refine w_and ?_ | refine w_or ?_ | refine w_not ?_ | refine w_andV ?_ | refine w_orV ?_ | refine w_notV ?_ | refine w_if ?_
  | (apply w_var; (· with_unfolding_all rfl)) | refine w_c ?_ | refine w_op ?_ | refine w_chain ?_ | refine w_nil ?_ | refine w_cons ?_ | refine w_tup ?_ | refine w_lst ?_
  | (apply w_len; (· wtm_at "nn")) | refine w_call ?_ | refine w_cb ?_ | refine w_isN ?_ | refine w_notN ?_ | refine w_fz ?_
  | refine w_add ?_ | refine w_sub ?_ | refine w_lt ?_ | refine w_le ?_ | refine w_gt ?_ | refine w_ge ?_ | (apply w_mod; (· wtm_at "nn")) | (apply w_div; (· wtm_at "nn"); (· wtm_at "nn"))
  | (apply w_eq; (· with_unfolding_all rfl)) | (apply w_ne; (· with_unfolding_all rfl))
  | (apply w_ixT; (· with_unfolding_all rfl)) | (apply w_ixL; (· wtm_at "gl"); (· with_unfolding_all rfl))
  | refine w_lenT ?_ | (apply w_lenL; (· wtm_at "gl")) | refine w_min2 ?_ | refine w_max2 ?_ | refine w_intB ?_ | (apply w_tupleL; (· wtm_at "gl"))
  | refine w_bm ?_ | refine w_bm0 ?_ | (apply w_ty; (· wtm_at "gl"))
  | (apply w_setL; (· wtm_at "lk"); (· with_unfolding_all rfl)) | (apply w_append; (· wtm_at "lk"); (· wtm_at "nn")) | (apply w_extend; (· wtm_at "lk"); (· wtm_at "gl"); (· wtm_at "nn"))
  | refine w_hcons ?_ | refine w_hnil ?_ | refine w_hname ?_ | (apply w_htup; (· with_unfolding_all rfl)) | (apply w_exT; (· with_unfolding_all rfl))
  | refine w_lcR1 ?_ | refine w_lcL ?_ | refine w_lcT ?_ | refine w_forR1 ?_ | refine w_forR2 ?_ | refine w_forL ?_ | refine w_forT ?_ | refine w_yes ?_ | refine w_cnm ?_ | (apply w_ctp; (· with_unfolding_all rfl))
  | (apply w_exL; (· wtm_at "gl")) | refine w_exTu ?_ | (apply w_exI; (· wtm_at "nn")) | (apply w_exI2; (· wtm_at "nn")) | refine w_exII ?_
  | refine w_disp ?_ | refine w_pnil ?_ | refine w_pcons ?_ | (apply w_dispE; (· wtm_at "lk"); (· with_unfolding_all rfl); (· wtm_at "nn"))
  | refine w_dget ?_ | refine w_din ?_ | refine w_dget1 ?_ | refine w_dput ?_ | refine w_dpop1 ?_ | refine w_lenSet ?_ | refine w_listRng ?_ | refine w_notInRng ?_
  | (apply w_inK; (· wtm_at "dk"); (· with_unfolding_all rfl)) | (apply w_inT; (· wtm_at "dk"); (· with_unfolding_all rfl))
  | (apply w_isK; (· wtm_at "dk")) | (apply w_isT; (· wtm_at "dk"))
  | (apply w_putK; (· wtm_at "lk"); (· with_unfolding_all rfl); (· wtm_at "nn")) | (apply w_putT; (· wtm_at "lk"); (· with_unfolding_all rfl); (· wtm_at "nn")))
local macro_rules | `(tactic| wtm_at "bb") => `(tactic| (simp only [isN, Bool.not_true, Bool.not_false, Bool.or_true, Bool.true_or, Bool.or_false, Bool.false_or, Bool.xor_true, Bool.xor_false]; done))
local macro_rules | `(tactic| wtm_at "kt") => `(tactic| with_reducible first | exact kb_tu_tu | exact kb_tu_li | exact kb_tu_bo | exact kb_tu_st | exact kb_tu_in | exact kb_li_tu | exact kb_li_li | exact kb_li_bo | exact kb_li_st | exact kb_li_in | exact kb_No_tu | exact kb_No_li | exact kb_No_bo | exact kb_No_st | exact kb_No_in | exact kb_bo_tu | exact kb_bo_li | exact kb_bo_bo | exact kb_bo_st | exact kb_bo_in | exact kb_in_tu | exact kb_in_li | exact kb_in_bo | exact kb_in_st | exact kb_in_in | exact kb_st_tu | exact kb_st_li | exact kb_st_bo | exact kb_st_st | exact kb_st_in)
local macro_rules | `(tactic| wtm_at "ty") => `(tactic| first | assumption | exact ty_ref (by wtm_at "lk") | (with_unfolding_all exact rfl))
local macro_rules | `(tactic| wtm_at "x") => `(tactic| with_reducible first
  | (apply w_taken; (· wtm_at "lk"); (· wtm_at "nn"); (· wtm_at "nn")) | (apply w_eqD; (· wtm_at "vl"); (· wtm_at "vl"); (· wtm_at "pl"); (· wtm_at "pl")) | (apply w_neD; (· wtm_at "vl"); (· wtm_at "vl"); (· wtm_at "pl"); (· wtm_at "pl"))
  | (apply vR_row; (· assumption)) | (refine vR_frz (by assumption) ?_) | refine frz_let ?_ | refine w_isi ?_ | refine w_isi2 ?_ | (apply w_isiE; (· wtm_at "ty"); (· wtm_at "kt")) | (apply w_isiE2; (· wtm_at "ty"); (· wtm_at "kt"); (· wtm_at "kt"))
  | refine w_iteT rfl ?_ | refine w_iteF rfl ?_ | (apply w_iteT; (· wtm_at "bb")) | (apply w_iteF; (· wtm_at "bb")))
local macro_rules | `(tactic| wtm_at "w") => `(tactic| repeat (first | wtm_at "1" | wtm_at "x"))
local macro_rules | `(tactic| wtm_at "x") => `(tactic| with_reducible first
  | refine w_raiseN ?_ | refine w_raiseE ?_ | refine w_callX ?_
  | (apply w_taken; (· wtm_at "lk"); (· wtm_at "nn"); (· wtm_at "nn")) | (apply w_eqD; (· wtm_at "vl"); (· wtm_at "vl"); (· wtm_at "pl"); (· wtm_at "pl")) | (apply w_neD; (· wtm_at "vl"); (· wtm_at "vl"); (· wtm_at "pl"); (· wtm_at "pl"))
  | (apply vR_row; (· assumption)) | (refine vR_frz (by assumption) ?_) | refine frz_let ?_
  | refine w_iteT rfl ?_ | refine w_iteF rfl ?_ | (apply w_iteT; (· wtm_at "bb")) | (apply w_iteF; (· wtm_at "bb")))
/-! ### defs that refuse at once -/
def b_ringX (K : PySem.W.Frag) (E' : DXK) : DS := dSeq (dDrop (dCallX (spx_need_web K) E' (dCons (dVar 0) dNil))) dNo
def b_N_initX (K : PySem.W.Frag) (E' : DXK) : DS := dSeq (dDrop (dCallX (spx_need_web K) E' (dCons (dVar 1) dNil))) dNo
theorem spx_of_bad {K : PySem.W.Frag} {n : Int} {ls : List Mg.Lk} {k : Int} {G : Gp} {Q : DK} {E' : DXK} (hl : ls.length ≤ 20) (hb : badF n ls = some k) (h : ∀ d, G d = none → E' (cA K "BadWeb") (some d) (xdG G d "number" k)) : spx_need_web K [webD n ls] G Q E' :=
  ⟨n, ls, rfl, hl, (fun z => by rw [hb] at z; cases z), (fun k' z => by rw [hb] at z; cases z; exact h)⟩
theorem r_ringX {K : PySem.W.Frag} : RdX 1 (b_ringX K) (spBad K) := by
  rintro _ G Q E' ⟨n, ls, k, rfl, hl, hb, h⟩
  wtm_at "st"
  refine vN0 ?_
  unfold b_ringX
  wtm_at "w"
  exact spx_of_bad hl hb fun d hd => vX0 (h d hd)
theorem r_N_initX {K : PySem.W.Frag} {m : Nat} : RdX (5 + m) (b_N_initX K) (spx_N_init K) := by
  rintro _ G Q E' ⟨x, n, ls, k, a, r, y, rfl, hl, hb, h⟩
  refine vN0 ?_
  unfold b_N_initX
  refine w_seq (w_drop (w_callX (w_cons ?_)))
  refine w_var (d := webD n ls) rfl ?_
  wtm_at "w"
  exact spx_of_bad hl hb fun d hd => vX0 (h d hd)
theorem r_withoutX {K : PySem.W.Frag} : RdX 2 (b_withoutX K) (spBad K) := by
  rintro _ G Q E' ⟨n, ls, k, rfl, hl, hb, h⟩
  wtm_at "st"
  refine vN0 ?_
  unfold b_withoutX
  wtm_at "w"
  exact ⟨n, ls, k, rfl, hl, hb, fun d hd => vX0 (h d hd)⟩
/-! ### the lambdas -/
def b_lam (K : PySem.W.Frag) (i : Nat) (E' : DXK) : DE := match i with
  | 0 => dCallX (spx_need_web K) E' (dCons (dVar 0) dNil)
  | 1 => dCallX (spx_ring K) E' (dCons (dVar 0) dNil)
  | 2 => dCallX (spx_enough K) E' (dCons (dVar 0) dNil)
  | 3 => dCallX (spx_without K) E' (dCons (dVar 0) dNil)
  | _ => dMakeX (cA K "Net") (spx_N_init K) E' (dCons (dVar 0) (dCons (dC (.int 99)) (dCons (dC (.int 99)) (dCons (dFz (dLst dNil)) dNil))))
theorem w_makeX {C : Addr} {sp : DSpX} {E' : DXK} {t : DA} {s : DSt} {G : Gp} {Q : DK} (h : t s G fun ds G1 => ∀ x dx, G1 x = none → sp (.ref x :: ds) (ud G1 x (.sm (.ins C dx []))) (fun v G2 => v = .non ∧ Q (.ref x) G2) E') : dMakeX C sp E' t s G Q := h
theorem r_lam {K : PySem.W.Frag} {i : Nat} (hi : i < 5) {n : Int} {ls : List Mg.Lk} {k : Int} {G : Gp} {Q : DK} {E' : DXK} (hl : ls.length ≤ 20) (hb : badF n ls = some k) (ho : OutK G (some (cA K "BadWeb", some k)) Q E') : b_lam K i (vX E') ([webD n ls].map some) G (vR Q) := by
  have h : ∀ d, G d = none → E' (cA K "BadWeb") (some d) (xdG G d "number" k) := ho.2.2 _ k rfl
  have h1 : spBad K [webD n ls] G (vR Q) (vX E') := ⟨n, ls, k, rfl, hl, hb, fun d hd => vX0 (h d hd)⟩
  obtain rfl | rfl | rfl | rfl | rfl : i = 0 ∨ i = 1 ∨ i = 2 ∨ i = 3 ∨ i = 4 := by omega
  · exact w_callX (w_cons (w_var (d := webD n ls) rfl (w_nil (spx_of_bad hl hb fun d hd => vX0 (h d hd)))))
  · exact w_callX (w_cons (w_var (d := webD n ls) rfl (w_nil h1)))
  · exact w_callX (w_cons (w_var (d := webD n ls) rfl (w_nil h1)))
  · exact w_callX (w_cons (w_var (d := webD n ls) rfl (w_nil h1)))
  · show dMakeX (cA K "Net") (spx_N_init K) (vX E') (dCons (dVar 0) (dCons (dC (.int 99)) (dCons (dC (.int 99)) (dCons (dFz (dLst dNil)) dNil)))) ([webD n ls].map some) G (vR Q)
    refine w_makeX (w_cons (w_var (d := webD n ls) rfl ?_))
    wtm_at "w"
    intro x dx hx
    refine ⟨_, n, ls, k, _, _, _, rfl, hl, hb, fun d hd => ?_⟩
    have hsub : ∀ a y, G a = some y → ud G x (.sm (.ins (cA K "Net") dx [])) a = some y := sub_new hx sub_refl
    exact vX_sub (sub_xd hsub) (h d (sub_none hsub hd))
/-! ### what is refused, and by which word -/
/-- what must be so of the classes -/
structure XFacts (K : PySem.W.Frag) : Prop where
  exc : ExcC K (cA K "BadWeb")
  k0 : PySem.W.kitAny K (.ref (cA K "BadWeb")) (([cA K "BadHost", cA K "BadNet", cA K "BadPlace", cA K "BadTime", cA K "HasRing"] : List Addr).map Value.ref) = some false
  k1 : PySem.W.kitOne K (.ref (cA K "BadWeb")) (.ref (cA K "BadWeb")) = some true
  k2 : PySem.W.kitOne K (.ref (cA K "BadWeb")) (.type "ValueError") = some true
def suite (K : PySem.W.Frag) (a C : Addr) (d : Option Addr) : DS :=
  dSeq (dAsg (dIsX K C a d (PySem.W.kitAny K (.ref C) (([cA K "BadHost", cA K "BadNet", cA K "BadPlace", cA K "BadTime", cA K "HasRing"] : List Addr).map Value.ref)) (dVar 3)) (hName 1))
  (dSeq (dAsg (dAndV (dIsX K C a d (PySem.W.kitOne K (.ref C) (.ref (cA K "BadWeb"))) (dVar 3)) (dAndV (dIsX K C a d (PySem.W.kitOne K (.ref C) (.type "ValueError")) (dVar 3)) (dNotV (dVar 1)))) (hName 2))
  (dRet (dIf (dTest (dVar 2)) (dTup (dCons (dC (.str "web")) (dCons (dXf a C d (cA K "BadWeb") "number" (dVar 3)) dNil))) (dTup (dCons (dC (.str "other")) (dCons (dC (.int 0)) dNil))))))
def b_L_word (K : PySem.W.Frag) : DS := dSeq (dTry 4 3 (fun C => C = cA K "BadWeb") (fun E' => dDrop (dAct 0 (LS K) E')) (suite K)) (dRet (dC .non))
theorem w_isX {K : PySem.W.Frag} {C a : Addr} {d : Option Addr} {kit : Option Bool} {i : Nat} {s : DSt} {G : Gp} {Q : DK} {b : Bool} (hi : s[i]? = some (some (.ref a))) (T : ExcC K C) (hd : XdG G d) (hk : kit = some b) (q : Q (.bl b) G) : dIsX K C a d kit (dVar i) s G Q := ⟨_, hi, rfl, T, hd, b, hk, q⟩
theorem r_L_word {K : PySem.W.Frag} (T : XFacts K) : Rd 4 (b_L_word K) (sp_L_word K) := by
  rintro _ G Q ⟨f, L, cs, g, k, rfl, hf, hP, hls, q⟩
  wtm_at "st"
  refine vN0 ?_
  unfold b_L_word
  refine w_seq ⟨tW K, qW, g, hP, fun og => ?_⟩
  have hfP : f ≠ tW K := fun z => by rw [z, hP] at hf; cases hf
  refine w_drop ⟨f, L, cs, tW K, qW, some og, _, rfl, (ud_ne hfP).trans hf, ud_same, hls, fun z => (by cases z), fun C z => (by cases z), fun C n z d hd => ?_⟩
  cases z
  have hdP : tW K ≠ d := fun z => by rw [← z, ud_same] at hd; cases hd
  refine ⟨(ud_ne hdP).trans ud_same, rfl, fun a => ?_⟩
  generalize hG' : ud (xdG (ud G (tW K) (.sm (.tab qW (some og)))) d "number" k) (tW K) (.sm (.tab qW g)) = G'
  have hd' : G' d = some (.sm (.raw (.xd [(("number" : Str), V.int k)]))) := by
    rw [← hG', ud_ne (Ne.symm hdP)]
    exact ud_same
  have hsub : ∀ a x, G a = some x → G' a = some x := fun b x hb => by
    rw [← hG']
    by_cases e : b = tW K
    · rw [e, hP] at hb
      rw [e, ud_same]
      exact hb
    · rw [ud_ne e]
      have hbd : b ≠ d := fun z => by
        subst z
        rw [ud_ne e, hb] at hd
        cases hd
      unfold xdG
      rw [ud_ne hbd, ud_ne e]
      exact hb
  have hx : XdG G' (some d) := fun dd e => by
    cases e
    exact ⟨_, hd'⟩
  unfold suite
  refine w_seq (w_asgN (w_isX rfl T.exc hx T.k0 (vN0 (w_seq (w_asgN ?_)))))
  refine ⟨_, rfl, rfl, T.exc, hx, true, T.k1, true, rfl, ?_⟩
  refine w_iteT rfl ⟨_, rfl, rfl, T.exc, hx, true, T.k2, true, rfl, w_iteT rfl ?_⟩
  refine ⟨_, rfl, false, rfl, vN0 (w_ret ?_)⟩
  refine ⟨_, rfl, _, rfl, w_iteT rfl ?_⟩
  refine w_tup (w_cons (w_c (w_cons ⟨_, rfl, rfl, rfl, d, _, k, rfl, hd', rfl, w_nil ⟨Nat.le_of_ble_eq_true rfl, ?_⟩⟩)))
  exact vR_sub hsub q
end Dg

namespace Dg
open PySem PySem.Spec L2

local macro_rules | `(tactic| wtm_at "ne") => `(tactic| first | assumption | (apply Ne.symm; assumption) | (grind [ud, er]))
local macro_rules | `(tactic| wtm_at "lk") => `(tactic| first | (with_reducible assumption) | (with_reducible exact ud_same) | ((with_reducible refine (ud_ne (by wtm_at "ne")).trans ?_); wtm_at "lk"))
local macro_rules | `(tactic| wtm_at "gl") => `(tactic| first | (with_reducible assumption) | (with_reducible exact lst_ref (by wtm_at "lk")) | (with_reducible exact lstOf_new (by assumption) (by assumption)) | (with_unfolding_all exact rfl))
local macro_rules | `(tactic| wtm_at "vl") => `(tactic| first | (with_reducible exact val_ref (by wtm_at "lk")) | (with_unfolding_all exact rfl))
local macro_rules | `(tactic| wtm_at "dk") => `(tactic| with_reducible first | exact dK_own (by wtm_at "lk") | exact dK_lk (by wtm_at "lk") | exact dT_own (by wtm_at "lk"))
local macro_rules | `(tactic| wtm_at "pl") => `(tactic| with_unfolding_all first | exact rfl | exact all_int _ | exact all_P2 _ | assumption)
local macro_rules | `(tactic| wtm_at "nn") => `(tactic| first | omega | decide | (simp only [List.length_cons, List.length_nil, List.length_map, List.length_append]; omega) | grind)
local macro_rules | `(tactic| wtm_at "st") => `(tactic| (simp only [stD, List.map_cons, List.map_nil, List.length_cons, List.length_nil, List.replicate, Nat.reduceAdd, Nat.reduceSub, List.cons_append, List.nil_append]))
local macro_rules | `(tactic| wtm_at "1") => `(tactic| with_reducible first
  | refine w_seq ?_ | refine w_asgN ?_ | refine w_asgS ?_ | refine w_asgT ?_ | refine w_ret ?_ | refine w_drop ?_ | refine w_ifS ?_ | refine w_test ?_ | refine w_next ?_
  | refine w_nx ?_ | refine w_nx0 ?_ | refine w_rt ?_ | refine w_bk ?_ | refine w_ct ?_
  | refine w_bl2 ?_ | refine w_and ?_ | refine w_or ?_ | refine w_not ?_ | refine w_andV ?_ | refine w_orV ?_ | refine w_notV ?_ | refine w_if ?_
  | (apply w_var; (· with_unfolding_all rfl)) | refine w_c ?_ | refine w_op ?_ | refine w_chain ?_ | refine w_nil ?_ | refine w_cons ?_ | refine w_tup ?_ | refine w_lst ?_
  | (apply w_len; (· wtm_at "nn")) | refine w_call ?_ | refine w_cb ?_ | refine w_isN ?_ | refine w_notN ?_ | refine w_fz ?_
  | refine w_add ?_ | refine w_sub ?_ | refine w_lt ?_ | refine w_le ?_ | refine w_gt ?_ | refine w_ge ?_ | (apply w_mod; (· wtm_at "nn")) | (apply w_div; (· wtm_at "nn"); (· wtm_at "nn"))
  | (apply w_eq; (· with_unfolding_all rfl)) | (apply w_ne; (· with_unfolding_all rfl))
  | (apply w_ixT; (· with_unfolding_all rfl)) | (apply w_ixL; (· wtm_at "gl"); (· with_unfolding_all rfl))
  | refine w_lenT ?_ | (apply w_lenL; (· wtm_at "gl")) | refine w_min2 ?_ | refine w_max2 ?_ | refine w_intB ?_ | (apply w_tupleL; (· wtm_at "gl"))
  | refine w_bm ?_ | refine w_bm0 ?_ | (apply w_ty; (· wtm_at "gl"))
  | (apply w_setL; (· wtm_at "lk"); (· with_unfolding_all rfl)) | (apply w_append; (· wtm_at "lk"); (· wtm_at "nn")) | (apply w_extend; (· wtm_at "lk"); (· wtm_at "gl"); (· wtm_at "nn"))
  | refine w_hcons ?_ | refine w_hnil ?_ | refine w_hname ?_ | (apply w_htup; (· with_unfolding_all rfl)) | (apply w_exT; (· with_unfolding_all rfl))
  | refine w_lcR1 ?_ | refine w_lcL ?_ | refine w_lcT ?_ | refine w_forR1 ?_ | refine w_forR2 ?_ | refine w_forL ?_ | refine w_forT ?_ | refine w_yes ?_ | refine w_cnm ?_ | (apply w_ctp; (· with_unfolding_all rfl))
  | (apply w_exL; (· wtm_at "gl")) | refine w_exTu ?_ | (apply w_exI; (· wtm_at "nn")) | (apply w_exI2; (· wtm_at "nn")) | refine w_exII ?_
  | refine w_disp ?_ | refine w_pnil ?_ | refine w_pcons ?_ | (apply w_dispE; (· wtm_at "lk"); (· with_unfolding_all rfl); (· wtm_at "nn"))
  | refine w_dget ?_ | refine w_din ?_ | refine w_dget1 ?_ | refine w_dput ?_ | refine w_dpop1 ?_ | refine w_lenSet ?_ | refine w_listRng ?_ | refine w_notInRng ?_
  | (apply w_inK; (· wtm_at "dk"); (· with_unfolding_all rfl)) | (apply w_inT; (· wtm_at "dk"); (· with_unfolding_all rfl))
  | (apply w_isK; (· wtm_at "dk")) | (apply w_isT; (· wtm_at "dk"))
  | (apply w_putK; (· wtm_at "lk"); (· with_unfolding_all rfl); (· wtm_at "nn")) | (apply w_putT; (· wtm_at "lk"); (· with_unfolding_all rfl); (· wtm_at "nn")))
local macro_rules | `(tactic| wtm_at "bb") => `(tactic| (simp only [isN, Bool.not_true, Bool.not_false, Bool.or_true, Bool.true_or, Bool.or_false, Bool.false_or, Bool.xor_true, Bool.xor_false]; done))
local macro_rules | `(tactic| wtm_at "kt") => `(tactic| with_reducible first | exact kb_tu_tu | exact kb_tu_li | exact kb_tu_bo | exact kb_tu_st | exact kb_tu_in | exact kb_li_tu | exact kb_li_li | exact kb_li_bo | exact kb_li_st | exact kb_li_in | exact kb_No_tu | exact kb_No_li | exact kb_No_bo | exact kb_No_st | exact kb_No_in | exact kb_bo_tu | exact kb_bo_li | exact kb_bo_bo | exact kb_bo_st | exact kb_bo_in | exact kb_in_tu | exact kb_in_li | exact kb_in_bo | exact kb_in_st | exact kb_in_in | exact kb_st_tu | exact kb_st_li | exact kb_st_bo | exact kb_st_st | exact kb_st_in)
local macro_rules | `(tactic| wtm_at "ty") => `(tactic| first | assumption | exact ty_ref (by wtm_at "lk") | (with_unfolding_all exact rfl))
local macro_rules | `(tactic| wtm_at "x") => `(tactic| with_reducible first
  | (apply w_taken; (· wtm_at "lk"); (· wtm_at "nn"); (· wtm_at "nn")) | (apply w_eqD; (· wtm_at "vl"); (· wtm_at "vl"); (· wtm_at "pl"); (· wtm_at "pl")) | (apply w_neD; (· wtm_at "vl"); (· wtm_at "vl"); (· wtm_at "pl"); (· wtm_at "pl"))
  | (apply vR_row; (· assumption)) | (refine vR_frz (by assumption) ?_) | refine frz_let ?_ | refine w_isi ?_ | refine w_isi2 ?_ | (apply w_isiE; (· wtm_at "ty"); (· wtm_at "kt")) | (apply w_isiE2; (· wtm_at "ty"); (· wtm_at "kt"); (· wtm_at "kt"))
  | refine w_iteT rfl ?_ | refine w_iteF rfl ?_ | (apply w_iteT; (· wtm_at "bb")) | (apply w_iteF; (· wtm_at "bb")))
local macro_rules | `(tactic| wtm_at "w") => `(tactic| repeat (first | wtm_at "1" | wtm_at "x"))
local macro_rules | `(tactic| wtm_at "x") => `(tactic| with_reducible first
  | (apply w_taken; (· wtm_at "lk"); (· wtm_at "nn"); (· wtm_at "nn")) | (apply w_eqD; (· wtm_at "vl"); (· wtm_at "vl"); (· wtm_at "pl"); (· wtm_at "pl")) | (apply w_neD; (· wtm_at "vl"); (· wtm_at "vl"); (· wtm_at "pl"); (· wtm_at "pl"))
  | (apply vR_row; (· assumption)) | (refine vR_frz (by assumption) ?_) | refine frz_let ?_
  | refine w_iteT rfl ?_ | refine w_iteF rfl ?_ | (apply w_iteT; (· wtm_at "bb")) | (apply w_iteF; (· wtm_at "bb")))
/-! ### the list of lambdas -/
abbrev lmE (K : PySem.W.Frag) (cells : List (Str × Addr)) (i : Nat) : DE := dLam (tW K) (lmR i (cloI cells i))
def b_L_works (K : PySem.W.Frag) (cells : List (Str × Addr)) : DZ :=
  dzSeq (dAsg (dLst (dCons (lmE K cells 0) dNil)) (hName 1))
  (dzSeq (dDrop (dBM "list" mAppend (dVar 1) (dCons (lmE K cells 1) dNil)))
  (dzSeq (dDrop (dBM "list" mAppend (dVar 1) (dCons (lmE K cells 2) dNil)))
  (dzSeq (dDrop (dBM "list" mAppend (dVar 1) (dCons (lmE K cells 3) dNil)))
  (dzSeq (dDrop (dBM "list" mAppend (dVar 1) (dCons (lmE K cells 4) dNil)))
  (dzRet (dVar 1))))))
theorem w_lam {P : Addr} {L : LamR} {s : DSt} {G : Gp} {Q : DK} {g : Option (Fz × Hp)} (h : G P = some (.sm (.tab L.q g))) (q : ∀ f, G f = none → Q (.ref f) (ud G f (.sm (.fn L none)))) : dLam P L s G Q := ⟨g, h, q⟩
theorem w_lamR {K : PySem.W.Frag} {i : Nat} {cl : List (Str × Addr)} {s : DSt} {G : Gp} {Q : DK} {g : Option (Fz × Hp)} (h : G (tW K) = some (.sm (.tab qW g))) (q : ∀ f, G f = none → Q (.ref f) (ud G f (.sm (.fn (lmR i cl) none)))) : dLam (tW K) (lmR i cl) s G Q := ⟨g, h, q⟩
theorem w_zseq {t : DS} {u : DZ} {R : D → DSt → Gp → Prop} {s : DSt} {G : Gp} (h : t { nx := vN (u R), rt := fun _ _ => False } s G) : dzSeq t u R s G := h
theorem w_zret {t : DE} {R : D → DSt → Gp → Prop} {s : DSt} {G : Gp} (h : t s G fun d G' => R d s G') : dzRet t R s G := h
theorem upO_ok {val : Addr → Option D} {x : GO} (h : ∀ L, x ≠ .sm (.fn L none)) : upO val x = x := by
  cases x with
  | cmp L => rfl
  | sm o =>
    cases o with
    | fn L ds =>
      cases ds with
      | none => exact absurd rfl (h L)
      | some es => rfl
    | _ => rfl
theorem upG_at {val : Addr → Option D} {G : Gp} {a : Addr} {x : GO} (h : G a = some x) (hx : ∀ L, x ≠ .sm (.fn L none)) : upG val G a = some x := by
  unfold upG
  rw [h, Option.map_some, upO_ok hx]
theorem upG_fn {val : Addr → Option D} {G : Gp} {a c : Addr} {i : Nat} {cl : List (Str × Addr)} {w : D} (h : G a = some (.sm (.fn (lmR i cl) none))) (hc : cl = [(("_law_web_here" : Str), c)]) (hv : val c = some w) : upG val G a = some (.sm (.fn (lmR i [(("_law_web_here" : Str), c)]) (some [w]))) := by
  subst hc
  unfold upG
  rw [h, Option.map_some]
  show some (GO.sm (.fn (lmR i [(("_law_web_here" : Str), c)]) (capD val [c]))) = _
  unfold capD capD
  rw [hv]
theorem r_L_works {K : PySem.W.Frag} {scope : Scope} (hsc : scope.names.lookup ("_law_web_here" : Str) = some .cell) : ∀ ds G Q cells, sp_L_works K ds G Q → (∀ y, scope.names.lookup y = some .cell → ∃ c, cells.lookup y = some c) →
    b_L_works K cells (fun d s' G' => ∃ val : Addr → Option D, (∀ a e, val a = some e → ∃ (y : Str) (i : Nat), cells.lookup y = some a ∧ [("_law_web_here" : Str), "_law_works_here"][i]? = some y ∧ scope.names.lookup y = some .cell ∧ s'[i]? = some (some e)) ∧ vR Q d (upG val G')) (startD [("_law_web_here" : Str), "_law_works_here"] ds) G := by
  rintro _ G Q cells ⟨n, ls, g, rfl, hP, q⟩ hcells
  obtain ⟨c, hc⟩ := hcells _ hsc
  have ec : cW cells = c := by
    unfold cW
    rw [hc]
    rfl
  have es : startD [("_law_web_here" : Str), "_law_works_here"] [webD n ls] = [some (webD n ls), none] := rfl
  rw [es]
  unfold b_L_works
  refine w_zseq ?_
  wtm_at "w"
  refine w_lamR hP fun f0 hf0 => ?_
  have hP0 : tW K ≠ f0 := fun z => by rw [← z, hP] at hf0; cases hf0
  wtm_at "w"
  intro p hp
  have hp0 : f0 ≠ p := fun z => by rw [← z, ud_same] at hp; cases hp
  have hPp : tW K ≠ p := fun z => by rw [← z, ud_ne hP0, hP] at hp; cases hp
  have hp : G p = none := by rw [ud_ne (Ne.symm hp0)] at hp; exact hp
  wtm_at "w"
  refine w_zseq ?_
  wtm_at "w"
  refine w_lamR (g := g) (by wtm_at "lk") fun f1 hf1 => ?_
  have a1 : f1 ≠ p := fun z => by rw [z, ud_same] at hf1; cases hf1
  rw [ud_ne a1] at hf1
  have a2 : f1 ≠ f0 := fun z => by rw [z, ud_same] at hf1; cases hf1
  rw [ud_ne a2] at hf1
  have a3 : tW K ≠ f1 := fun z => by rw [← z, hP] at hf1; cases hf1
  wtm_at "w"
  refine w_zseq ?_
  wtm_at "w"
  refine w_lamR (g := g) (by wtm_at "lk") fun f2 hf2 => ?_
  have b1 : f2 ≠ p := fun z => by rw [z, ud_same] at hf2; cases hf2
  rw [ud_ne b1] at hf2
  have b2 : f2 ≠ f1 := fun z => by rw [z, ud_same] at hf2; cases hf2
  rw [ud_ne b2, ud_ne b1] at hf2
  have b3 : f2 ≠ f0 := fun z => by rw [z, ud_same] at hf2; cases hf2
  rw [ud_ne b3] at hf2
  have b4 : tW K ≠ f2 := fun z => by rw [← z, hP] at hf2; cases hf2
  wtm_at "w"
  refine w_zseq ?_
  wtm_at "w"
  refine w_lamR (g := g) (by wtm_at "lk") fun f3 hf3 => ?_
  have c1 : f3 ≠ p := fun z => by rw [z, ud_same] at hf3; cases hf3
  rw [ud_ne c1] at hf3
  have c2 : f3 ≠ f2 := fun z => by rw [z, ud_same] at hf3; cases hf3
  rw [ud_ne c2, ud_ne c1] at hf3
  have c3 : f3 ≠ f1 := fun z => by rw [z, ud_same] at hf3; cases hf3
  rw [ud_ne c3, ud_ne c1] at hf3
  have c4 : f3 ≠ f0 := fun z => by rw [z, ud_same] at hf3; cases hf3
  rw [ud_ne c4] at hf3
  have c5 : tW K ≠ f3 := fun z => by rw [← z, hP] at hf3; cases hf3
  wtm_at "w"
  refine w_zseq ?_
  wtm_at "w"
  refine w_lamR (g := g) (by wtm_at "lk") fun f4 hf4 => ?_
  have d1 : f4 ≠ p := fun z => by rw [z, ud_same] at hf4; cases hf4
  rw [ud_ne d1] at hf4
  have d2 : f4 ≠ f3 := fun z => by rw [z, ud_same] at hf4; cases hf4
  rw [ud_ne d2, ud_ne d1] at hf4
  have d3 : f4 ≠ f2 := fun z => by rw [z, ud_same] at hf4; cases hf4
  rw [ud_ne d3, ud_ne d1] at hf4
  have d4 : f4 ≠ f1 := fun z => by rw [z, ud_same] at hf4; cases hf4
  rw [ud_ne d4, ud_ne d1] at hf4
  have d5 : f4 ≠ f0 := fun z => by rw [z, ud_same] at hf4; cases hf4
  rw [ud_ne d5] at hf4
  have d6 : tW K ≠ f4 := fun z => by rw [← z, hP] at hf4; cases hf4
  wtm_at "w"
  refine w_zret ?_
  wtm_at "w"
  refine ⟨fun a => if a = c then some (webD n ls) else none, fun a e he => ?_, vR0 (q _ p [f0, f1, f2, f3, f4] [(("_law_web_here" : Str), c)] ?_ ?_ rfl rfl ?_)⟩
  · dsimp only at he
    by_cases hac : a = c
    · rw [if_pos hac] at he
      cases he
      exact ⟨_, 0, by rw [hac]; exact hc, rfl, hsc, rfl⟩
    · rw [if_neg hac] at he
      cases he
  · intro a x ha hx
    refine upG_at ?_ hx
    have e1 : a ≠ p := fun z => by rw [z, hp] at ha; cases ha
    have e2 : a ≠ f0 := fun z => by rw [z, hf0] at ha; cases ha
    have e3 : a ≠ f1 := fun z => by rw [z, hf1] at ha; cases ha
    have e4 : a ≠ f2 := fun z => by rw [z, hf2] at ha; cases ha
    have e5 : a ≠ f3 := fun z => by rw [z, hf3] at ha; cases ha
    have e6 : a ≠ f4 := fun z => by rw [z, hf4] at ha; cases ha
    simp only [ud_ne e1, ud_ne e2, ud_ne e3, ud_ne e4, ud_ne e5, ud_ne e6]
    exact ha
  · exact upG_at ud_same fun L z => by cases z
  · intro i f hi
    have hv : (fun a => if a = c then some (webD n ls) else none) c = some (webD n ls) := if_pos rfl
    rcases i with _ | _ | _ | _ | _ | i
    · cases hi
      exact upG_fn (cl := cloI cells 0) (by wtm_at "lk") (by rw [clo0, ec]) hv
    · cases hi
      exact upG_fn (cl := cloI cells 1) (by wtm_at "lk") (by rw [clo1, ec]) hv
    · cases hi
      exact upG_fn (cl := cloI cells 2) (by wtm_at "lk") (by rw [clo2, ec]) hv
    · cases hi
      exact upG_fn (cl := cloI cells 3) (by wtm_at "lk") (by rw [clo3, ec]) hv
    · cases hi
      exact upG_fn (cl := cloI cells 4) (by wtm_at "lk") (by rw [clo4, ec]) hv
    · cases hi
end Dg

namespace Dg
open PySem PySem.Spec L2

local macro_rules | `(tactic| wtm_at "ne") => `(tactic| first | assumption | (apply Ne.symm; assumption) | (grind [ud, er]))
local macro_rules | `(tactic| wtm_at "lk") => `(tactic| first | (with_reducible assumption) | (with_reducible exact ud_same) | ((with_reducible refine (ud_ne (by wtm_at "ne")).trans ?_); wtm_at "lk"))
local macro_rules | `(tactic| wtm_at "gl") => `(tactic| first | (with_reducible assumption) | (with_reducible exact lst_ref (by wtm_at "lk")) | (with_reducible exact lstOf_new (by assumption) (by assumption)) | (with_unfolding_all exact rfl))
local macro_rules | `(tactic| wtm_at "vl") => `(tactic| first | (with_reducible exact val_ref (by wtm_at "lk")) | (with_unfolding_all exact rfl))
local macro_rules | `(tactic| wtm_at "dk") => `(tactic| with_reducible first | exact dK_own (by wtm_at "lk") | exact dK_lk (by wtm_at "lk") | exact dT_own (by wtm_at "lk"))
local macro_rules | `(tactic| wtm_at "pl") => `(tactic| with_unfolding_all first | exact rfl | exact all_int _ | exact all_P2 _ | assumption)
local macro_rules | `(tactic| wtm_at "nn") => `(tactic| first | omega | decide | (simp only [List.length_cons, List.length_nil, List.length_map, List.length_append]; omega) | grind)
local macro_rules | `(tactic| wtm_at "st") => `(tactic| (simp only [stD, List.map_cons, List.map_nil, List.length_cons, List.length_nil, List.replicate, Nat.reduceAdd, Nat.reduceSub, List.cons_append, List.nil_append]))
local macro_rules | `(tactic| wtm_at "1") => `(tactic| with_reducible first
  | refine w_seq ?_ | refine w_asgN ?_ | refine w_asgS ?_ | refine w_asgT ?_ | refine w_ret ?_ | refine w_drop ?_ | refine w_ifS ?_ | refine w_test ?_ | refine w_next ?_
  | refine w_nx ?_ | refine w_nx0 ?_ | refine w_rt ?_ | refine w_bk ?_ | refine w_ct ?_
  | refine w_bl2 ?_ | refine w_and ?_ | refine w_or ?_ | refine w_not ?_ | refine w_andV ?_ | refine w_orV ?_ | refine w_notV ?_ | refine w_if ?_
  | (apply w_var; (· with_unfolding_all rfl)) | refine w_c ?_ | refine w_op ?_ | refine w_chain ?_ | refine w_nil ?_ | refine w_cons ?_ | refine w_tup ?_ | refine w_lst ?_
  | (apply w_len; (· wtm_at "nn")) | refine w_call ?_ | refine w_cb ?_ | refine w_isN ?_ | refine w_notN ?_ | refine w_fz ?_
  | refine w_add ?_ | refine w_sub ?_ | refine w_lt ?_ | refine w_le ?_ | refine w_gt ?_ | refine w_ge ?_ | (apply w_mod; (· wtm_at "nn")) | (apply w_div; (· wtm_at "nn"); (· wtm_at "nn"))
  | (apply w_eq; (· with_unfolding_all rfl)) | (apply w_ne; (· with_unfolding_all rfl))
  | (apply w_ixT; (· with_unfolding_all rfl)) | (apply w_ixL; (· wtm_at "gl"); (· with_unfolding_all rfl))
  | refine w_lenT ?_ | (apply w_lenL; (· wtm_at "gl")) | refine w_min2 ?_ | refine w_max2 ?_ | refine w_intB ?_ | (apply w_tupleL; (· wtm_at "gl"))
  | refine w_bm ?_ | refine w_bm0 ?_ | (apply w_ty; (· wtm_at "gl"))
  | (apply w_setL; (· wtm_at "lk"); (· with_unfolding_all rfl)) | (apply w_append; (· wtm_at "lk"); (· wtm_at "nn")) | (apply w_extend; (· wtm_at "lk"); (· wtm_at "gl"); (· wtm_at "nn"))
  | refine w_hcons ?_ | refine w_hnil ?_ | refine w_hname ?_ | (apply w_htup; (· with_unfolding_all rfl)) | (apply w_exT; (· with_unfolding_all rfl))
  | refine w_lcR1 ?_ | refine w_lcL ?_ | refine w_lcT ?_ | refine w_forR1 ?_ | refine w_forR2 ?_ | refine w_forL ?_ | refine w_forT ?_ | refine w_yes ?_ | refine w_cnm ?_ | (apply w_ctp; (· with_unfolding_all rfl))
  | (apply w_exL; (· wtm_at "gl")) | refine w_exTu ?_ | (apply w_exI; (· wtm_at "nn")) | (apply w_exI2; (· wtm_at "nn")) | refine w_exII ?_
  | refine w_disp ?_ | refine w_pnil ?_ | refine w_pcons ?_ | (apply w_dispE; (· wtm_at "lk"); (· with_unfolding_all rfl); (· wtm_at "nn"))
  | refine w_dget ?_ | refine w_din ?_ | refine w_dget1 ?_ | refine w_dput ?_ | refine w_dpop1 ?_ | refine w_lenSet ?_ | refine w_listRng ?_ | refine w_notInRng ?_
  | (apply w_inK; (· wtm_at "dk"); (· with_unfolding_all rfl)) | (apply w_inT; (· wtm_at "dk"); (· with_unfolding_all rfl))
  | (apply w_isK; (· wtm_at "dk")) | (apply w_isT; (· wtm_at "dk"))
  | (apply w_putK; (· wtm_at "lk"); (· with_unfolding_all rfl); (· wtm_at "nn")) | (apply w_putT; (· wtm_at "lk"); (· with_unfolding_all rfl); (· wtm_at "nn")))
local macro_rules | `(tactic| wtm_at "bb") => `(tactic| (simp only [isN, Bool.not_true, Bool.not_false, Bool.or_true, Bool.true_or, Bool.or_false, Bool.false_or, Bool.xor_true, Bool.xor_false]; done))
local macro_rules | `(tactic| wtm_at "kt") => `(tactic| with_reducible first | exact kb_tu_tu | exact kb_tu_li | exact kb_tu_bo | exact kb_tu_st | exact kb_tu_in | exact kb_li_tu | exact kb_li_li | exact kb_li_bo | exact kb_li_st | exact kb_li_in | exact kb_No_tu | exact kb_No_li | exact kb_No_bo | exact kb_No_st | exact kb_No_in | exact kb_bo_tu | exact kb_bo_li | exact kb_bo_bo | exact kb_bo_st | exact kb_bo_in | exact kb_in_tu | exact kb_in_li | exact kb_in_bo | exact kb_in_st | exact kb_in_in | exact kb_st_tu | exact kb_st_li | exact kb_st_bo | exact kb_st_st | exact kb_st_in)
local macro_rules | `(tactic| wtm_at "ty") => `(tactic| first | assumption | exact ty_ref (by wtm_at "lk") | (with_unfolding_all exact rfl))
local macro_rules | `(tactic| wtm_at "x") => `(tactic| with_reducible first
  | (apply w_taken; (· wtm_at "lk"); (· wtm_at "nn"); (· wtm_at "nn")) | (apply w_eqD; (· wtm_at "vl"); (· wtm_at "vl"); (· wtm_at "pl"); (· wtm_at "pl")) | (apply w_neD; (· wtm_at "vl"); (· wtm_at "vl"); (· wtm_at "pl"); (· wtm_at "pl"))
  | (apply vR_row; (· assumption)) | (refine vR_frz (by assumption) ?_) | refine frz_let ?_ | refine w_isi ?_ | refine w_isi2 ?_ | (apply w_isiE; (· wtm_at "ty"); (· wtm_at "kt")) | (apply w_isiE2; (· wtm_at "ty"); (· wtm_at "kt"); (· wtm_at "kt"))
  | refine w_iteT rfl ?_ | refine w_iteF rfl ?_ | (apply w_iteT; (· wtm_at "bb")) | (apply w_iteF; (· wtm_at "bb")))
local macro_rules | `(tactic| wtm_at "w") => `(tactic| repeat (first | wtm_at "1" | wtm_at "x"))
local macro_rules | `(tactic| wtm_at "x") => `(tactic| with_reducible first
  | (apply w_taken; (· wtm_at "lk"); (· wtm_at "nn"); (· wtm_at "nn")) | (apply w_eqD; (· wtm_at "vl"); (· wtm_at "vl"); (· wtm_at "pl"); (· wtm_at "pl")) | (apply w_neD; (· wtm_at "vl"); (· wtm_at "vl"); (· wtm_at "pl"); (· wtm_at "pl"))
  | (apply vR_row; (· assumption)) | (refine vR_frz (by assumption) ?_) | refine frz_let ?_
  | refine w_iteT rfl ?_ | refine w_iteF rfl ?_ | (apply w_iteT; (· wtm_at "bb")) | (apply w_iteF; (· wtm_at "bb")))
theorem vR_due {Q : DK} {G : Gp} {o : Option Int} {d : D} (q : Q (dueD o) G) (h : dueD o = d) : vR Q d G := by
  rw [← h]
  exact vR0 q
theorem fm_if {p : Int → Prop} [DecidablePred p] (xs : List Int) : (xs.filterMap fun x => if p x then none else some (D.int x)) = (xs.filter fun x => !decide (p x)).map D.int := by
  induction xs with
  | nil => rfl
  | cons x xs ih =>
    rw [List.filterMap_cons, List.filter_cons]
    by_cases h : p x
    · rw [if_pos h, decide_eq_true h]
      exact ih
    · rw [if_neg h, decide_eq_false h]
      show D.int x :: _ = D.int x :: _
      rw [ih]
theorem r_L_bad {K : PySem.W.Frag} : Rd 11 (b_L_bad K) (sp_L_bad K) := by
  rintro _ G Q ⟨n, ls, rfl, hlen, q⟩
  wtm_at "st"
  refine vN0 ?_
  unfold b_L_bad
  wtm_at "w"
  refine w_inFT rfl rfl fun b hb => ?_
  wtm_at "w"
  rw [bx_t]
  have hb1 : b = true ↔ 1 ≤ n ∧ n ≤ 6 := by
    rw [hb]
    simp
    omega
  refine w_ite (fun c => ?_) (fun c => ?_)
  · wtm_at "w"
    exact vR_due q (by rw [badF_n (fun z => by rw [hb1.mpr z] at c; cases c)]; rfl)
  · have hn : 1 ≤ n ∧ n ≤ 6 := hb1.mp (by simpa using c)
    wtm_at "w"
    rw [List.length_map]
    wtm_at "w"
    have hj : ((ls.length : Nat) : Int).toNat = ls.length := Int.toNat_natCast _
    rw [hj]
    refine for_st (fun i a => a = i ∧ ∀ j, j < i → badAt n ls j = false) (fun i => [some (webD n ls), some (.int n), some (lsD ls), some (.lst ((endsL (ls.take i)).map P2)), none, none, none, none, none, none, none]) (fun i => G) 0 ⟨rfl, fun j hj => by omega⟩ rfl rfl (fun _ _ _ _ => trivial) ?_ ?_
    · rintro _ d i hi rfl ⟨rfl, hno⟩
      rw [Int.zero_add]
      wtm_at "w"
      refine w_ixT (ls_at (getI_nat hi)) ?_
      have hends : endsL (ls.take (i + 1)) = endsL (ls.take i) ++ [ls[i].e1, ls[i].e2] := by
        rw [List.take_succ, List.getElem?_eq_getElem hi]
        exact endsL_snoc
      have hlen2 : (endsL (ls.take i)).length ≤ 40 := by
        have : ∀ ms : List Mg.Lk, (endsL ms).length = 2 * ms.length := fun ms => by
          induction ms with
          | nil => rfl
          | cons m ms ih => simp [endsL] at ih ⊢; omega
        rw [this, List.length_take]
        omega
      have hat := badAt_eq (n := n) hi
      have hR : badAt n ls i = true → vR Q (.int (i : Int)) G := fun h => vR_due q (by rw [badF_at hn hi hno h]; rfl)
      generalize hbt : badAt n ls i = bt at *
      generalize hmet : endsL (ls.take i) = met at *
      generalize hl : ls[i] = l at *
      have e0 : bt = (!(decide (i < 10) && decide (l.a ≠ l.b) && doorB n l.a l.x && doorB n l.b l.y) || decide (l.e1 ∈ met) || decide (l.e2 ∈ met)) := hat
      wtm_at "w"
      refine w_ite (fun c3 => ?_) (fun c3 => ?_)
      · wtm_at "w"
        exact hR (by rw [e0]; simp at c3; simp; omega)
      · wtm_at "w"
        refine w_ite (fun c4 => ?_) (fun c4 => ?_)
        · wtm_at "w"
          exact hR (by rw [e0]; simp at c4; simp [c4])
        · wtm_at "w"
          refine w_inD (ds := met.map P2) (by wtm_at "gl") rfl (all_P2 _) fun b1 hb1 => ?_
          have hb1 : b1 = true ↔ l.e1 ∈ met := by rw [hb1]; exact mem_P2 (p := l.e1)
          wtm_at "w"
          rw [bx_f]
          refine w_ite (fun c5 => ?_) (fun c5 => ?_)
          · wtm_at "w"
            exact hR (by rw [e0]; simp [hb1.mp c5])
          · wtm_at "w"
            refine w_inD (ds := met.map P2) (by wtm_at "gl") rfl (all_P2 _) fun b2 hb2 => ?_
            have hb2 : b2 = true ↔ l.e2 ∈ met := by rw [hb2]; exact mem_P2 (p := l.e2)
            wtm_at "w"
            rw [bx_f]
            refine w_ite (fun c6 => ?_) (fun c6 => ?_)
            · wtm_at "w"
              exact hR (by rw [e0]; simp [hb2.mp c6])
            · wtm_at "w"
              refine lc_over (xs := [l.a, l.b]) (φ := D.int) (fun x => if (0 ≤ x ∧ x < n) then none else some (.int x)) (by simp) (fun _ _ _ => trivial) ?_ ?_
              · rintro x p acc N M hx hp hN hM
                wtm_at "w"
                refine w_ite (fun c7 => ?_) (fun c7 => ?_)
                · wtm_at "w"
                  exact hN _ (by rw [if_neg (by simp at c7; omega)])
                · exact hM (by rw [if_pos (by simpa using c7)])
              · intro p hp
                wtm_at "w"
                have hpl1 : ([l.a, l.b].filterMap fun x => if (0 ≤ x ∧ x < n) then none else some (D.int x)) = ([l.a, l.b].filter fun x => !decide (0 ≤ x ∧ x < n)).map D.int := fm_if _
                rw [hpl1]
                wtm_at "w"
                intro b3 hb3
                have hb3 : b3 = true ↔ (0 ≤ l.a ∧ l.a < n) ∧ (0 ≤ l.b ∧ l.b < n) := by
                  rw [hb3, D.lst.injEq, List.map_eq_nil_iff, List.filter_eq_nil_iff]
                  simp
                wtm_at "w"
                refine w_ite (fun c7 => ?_) (fun c7 => ?_)
                · wtm_at "w"
                  refine hR ?_
                  rw [e0]
                  have hno2 : ¬ ((0 ≤ l.a ∧ l.a < n) ∧ (0 ≤ l.b ∧ l.b < n)) := fun z => by
                    rw [hb3.mpr z] at c7
                    cases c7
                  unfold doorB
                  by_cases m1 : 0 ≤ l.a ∧ l.a < n
                  · have m2 : ¬ (0 ≤ l.b ∧ l.b < n) := fun z => hno2 ⟨m1, z⟩
                    simp [m2]
                  · simp [m1]
                · have hd1 := hb3.mp (by simpa using c7)
                  wtm_at "w"
                  refine lc_over (xs := [l.x, l.y]) (φ := D.int) (fun x => if (0 ≤ x ∧ x < 4) then none else some (.int x)) (by simp) (fun _ _ _ => trivial) ?_ ?_
                  · rintro x p2 acc N M hx hp2 hN hM
                    wtm_at "w"
                    refine w_inFT rfl rfl fun b4 hb4 => ?_
                    have hb4 : b4 = true ↔ 0 ≤ x ∧ x < 4 := by
                      rw [hb4]
                      simp
                      omega
                    wtm_at "w"
                    rw [bx_t]
                    refine w_ite (fun c8 => ?_) (fun c8 => ?_)
                    · wtm_at "w"
                      exact hN _ (by rw [if_neg (fun z => by rw [hb4.mpr z] at c8; cases c8)])
                    · exact hM (by rw [if_pos (hb4.mp (by simpa using c8))])
                  · intro p2 hp2
                    wtm_at "w"
                    have hpl2 : ([l.x, l.y].filterMap fun x => if (0 ≤ x ∧ x < 4) then none else some (D.int x)) = ([l.x, l.y].filter fun x => !decide (0 ≤ x ∧ x < 4)).map D.int := fm_if _
                    rw [hpl2]
                    wtm_at "w"
                    intro b5 hb5
                    have hb5 : b5 = true ↔ (0 ≤ l.x ∧ l.x < 4) ∧ (0 ≤ l.y ∧ l.y < 4) := by
                      rw [hb5, D.lst.injEq, List.map_eq_nil_iff, List.filter_eq_nil_iff]
                      simp
                    wtm_at "w"
                    refine w_ite (fun c9 => ?_) (fun c9 => ?_)
                    · wtm_at "w"
                      refine hR ?_
                      rw [e0]
                      have hno2 : ¬ ((0 ≤ l.x ∧ l.x < 4) ∧ (0 ≤ l.y ∧ l.y < 4)) := fun z => by
                        rw [hb5.mpr z] at c9
                        cases c9
                      unfold doorB
                      by_cases m1 : 0 ≤ l.x ∧ l.x < 4
                      · have m2 : ¬ (0 ≤ l.y ∧ l.y < 4) := fun z => hno2 ⟨m1, z⟩
                        simp [m2]
                      · simp [m1]
                    · have hd2 := hb5.mp (by simpa using c9)
                      have hbf : bt = false := by
                        rw [e0]
                        unfold doorB
                        have m1 : l.e1 ∉ met := fun z => by rw [hb1.mpr z] at c5; cases c5
                        have m2 : l.e2 ∉ met := fun z => by rw [hb2.mpr z] at c6; cases c6
                        simp at c3 c4
                        simp [c4, m1, m2, hd1, hd2]
                        omega
                      wtm_at "w"
                      refine w_cat (ds := met.map P2) (es := [P2 l.e1, P2 l.e2]) (by wtm_at "gl") (by wtm_at "gl") (by simp; omega) ?_
                      wtm_at "w"
                      refine w_se (i + 1) ⟨rfl, fun j hj => ?_⟩ ?_ rfl
                      · rcases Nat.lt_or_ge j i with z | z
                        · exact hno j z
                        · have : j = i := by omega
                          subst this
                          rw [hbt, hbf]
                      · rw [hends, List.map_append]
                        exact .keep (.keep (.keep (.keep (.drop (.drop (.drop (.drop (.drop (.drop (.drop .refl))))))))))
    · rintro _ ⟨rfl, hno⟩
      wtm_at "w"
      exact vR_due q (by rw [badF_no hn hno]; rfl)
end Dg

namespace Dg
open PySem PySem.Spec L2

local macro_rules | `(tactic| wtm_at "ne") => `(tactic| first | assumption | (apply Ne.symm; assumption) | (grind [ud, er]))
local macro_rules | `(tactic| wtm_at "lk") => `(tactic| first | (with_reducible assumption) | (with_reducible exact ud_same) | ((with_reducible refine (ud_ne (by wtm_at "ne")).trans ?_); wtm_at "lk"))
local macro_rules | `(tactic| wtm_at "gl") => `(tactic| first | (with_reducible assumption) | (with_reducible exact lst_ref (by wtm_at "lk")) | (with_reducible exact lstOf_new (by assumption) (by assumption)) | (with_unfolding_all exact rfl))
local macro_rules | `(tactic| wtm_at "vl") => `(tactic| first | (with_reducible exact val_ref (by wtm_at "lk")) | (with_unfolding_all exact rfl))
local macro_rules | `(tactic| wtm_at "dk") => `(tactic| with_reducible first | exact dK_own (by wtm_at "lk") | exact dK_lk (by wtm_at "lk") | exact dT_own (by wtm_at "lk"))
local macro_rules | `(tactic| wtm_at "pl") => `(tactic| with_unfolding_all first | exact rfl | exact all_int _ | exact all_P2 _ | assumption)
local macro_rules | `(tactic| wtm_at "nn") => `(tactic| first | omega | decide | (simp only [List.length_cons, List.length_nil, List.length_map, List.length_append]; omega) | grind)
local macro_rules | `(tactic| wtm_at "st") => `(tactic| (simp only [stD, List.map_cons, List.map_nil, List.length_cons, List.length_nil, List.replicate, Nat.reduceAdd, Nat.reduceSub, List.cons_append, List.nil_append]))
local macro_rules | `(tactic| wtm_at "1") => `(tactic| with_reducible first
  | refine w_seq ?_ | refine w_asgN ?_ | refine w_asgS ?_ | refine w_asgT ?_ | refine w_ret ?_ | refine w_drop ?_ | refine w_ifS ?_ | refine w_test ?_ | refine w_next ?_
  | refine w_nx ?_ | refine w_nx0 ?_ | refine w_rt ?_ | refine w_bk ?_ | refine w_ct ?_
  | refine w_bl2 ?_ | refine w_and ?_ | refine w_or ?_ | refine w_not ?_ | refine w_andV ?_ | refine w_orV ?_ | refine w_notV ?_ | refine w_if ?_
  | (apply w_var; (· with_unfolding_all rfl)) | refine w_c ?_ | refine w_op ?_ | refine w_chain ?_ | refine w_nil ?_ | refine w_cons ?_ | refine w_tup ?_ | refine w_lst ?_
  | (apply w_len; (· wtm_at "nn")) | refine w_call ?_ | refine w_cb ?_ | refine w_isN ?_ | refine w_notN ?_ | refine w_fz ?_
  | refine w_add ?_ | refine w_sub ?_ | refine w_lt ?_ | refine w_le ?_ | refine w_gt ?_ | refine w_ge ?_ | (apply w_mod; (· wtm_at "nn")) | (apply w_div; (· wtm_at "nn"); (· wtm_at "nn"))
  | (apply w_eq; (· with_unfolding_all rfl)) | (apply w_ne; (· with_unfolding_all rfl))
  | (apply w_ixT; (· with_unfolding_all rfl)) | (apply w_ixL; (· wtm_at "gl"); (· with_unfolding_all rfl))
  | refine w_lenT ?_ | (apply w_lenL; (· wtm_at "gl")) | refine w_min2 ?_ | refine w_max2 ?_ | refine w_intB ?_ | (apply w_tupleL; (· wtm_at "gl"))
  | refine w_bm ?_ | refine w_bm0 ?_ | (apply w_ty; (· wtm_at "gl"))
  | (apply w_setL; (· wtm_at "lk"); (· with_unfolding_all rfl)) | (apply w_append; (· wtm_at "lk"); (· wtm_at "nn")) | (apply w_extend; (· wtm_at "lk"); (· wtm_at "gl"); (· wtm_at "nn"))
  | refine w_hcons ?_ | refine w_hnil ?_ | refine w_hname ?_ | (apply w_htup; (· with_unfolding_all rfl)) | (apply w_exT; (· with_unfolding_all rfl))
  | refine w_lcR1 ?_ | refine w_lcL ?_ | refine w_lcT ?_ | refine w_forR1 ?_ | refine w_forR2 ?_ | refine w_forL ?_ | refine w_forT ?_ | refine w_yes ?_ | refine w_cnm ?_ | (apply w_ctp; (· with_unfolding_all rfl))
  | (apply w_exL; (· wtm_at "gl")) | refine w_exTu ?_ | (apply w_exI; (· wtm_at "nn")) | (apply w_exI2; (· wtm_at "nn")) | refine w_exII ?_
  | refine w_disp ?_ | refine w_pnil ?_ | refine w_pcons ?_ | (apply w_dispE; (· wtm_at "lk"); (· with_unfolding_all rfl); (· wtm_at "nn"))
  | refine w_dget ?_ | refine w_din ?_ | refine w_dget1 ?_ | refine w_dput ?_ | refine w_dpop1 ?_ | refine w_lenSet ?_ | refine w_listRng ?_ | refine w_notInRng ?_
  | (apply w_inK; (· wtm_at "dk"); (· with_unfolding_all rfl)) | (apply w_inT; (· wtm_at "dk"); (· with_unfolding_all rfl))
  | (apply w_isK; (· wtm_at "dk")) | (apply w_isT; (· wtm_at "dk"))
  | (apply w_putK; (· wtm_at "lk"); (· with_unfolding_all rfl); (· wtm_at "nn")) | (apply w_putT; (· wtm_at "lk"); (· with_unfolding_all rfl); (· wtm_at "nn")))
local macro_rules | `(tactic| wtm_at "bb") => `(tactic| (simp only [isN, Bool.not_true, Bool.not_false, Bool.or_true, Bool.true_or, Bool.or_false, Bool.false_or, Bool.xor_true, Bool.xor_false]; done))
local macro_rules | `(tactic| wtm_at "kt") => `(tactic| with_reducible first | exact kb_tu_tu | exact kb_tu_li | exact kb_tu_bo | exact kb_tu_st | exact kb_tu_in | exact kb_li_tu | exact kb_li_li | exact kb_li_bo | exact kb_li_st | exact kb_li_in | exact kb_No_tu | exact kb_No_li | exact kb_No_bo | exact kb_No_st | exact kb_No_in | exact kb_bo_tu | exact kb_bo_li | exact kb_bo_bo | exact kb_bo_st | exact kb_bo_in | exact kb_in_tu | exact kb_in_li | exact kb_in_bo | exact kb_in_st | exact kb_in_in | exact kb_st_tu | exact kb_st_li | exact kb_st_bo | exact kb_st_st | exact kb_st_in)
local macro_rules | `(tactic| wtm_at "ty") => `(tactic| first | assumption | exact ty_ref (by wtm_at "lk") | (with_unfolding_all exact rfl))
local macro_rules | `(tactic| wtm_at "x") => `(tactic| with_reducible first
  | (apply w_taken; (· wtm_at "lk"); (· wtm_at "nn"); (· wtm_at "nn")) | (apply w_eqD; (· wtm_at "vl"); (· wtm_at "vl"); (· wtm_at "pl"); (· wtm_at "pl")) | (apply w_neD; (· wtm_at "vl"); (· wtm_at "vl"); (· wtm_at "pl"); (· wtm_at "pl"))
  | (apply vR_row; (· assumption)) | (refine vR_frz (by assumption) ?_) | refine frz_let ?_ | refine w_isi ?_ | refine w_isi2 ?_ | (apply w_isiE; (· wtm_at "ty"); (· wtm_at "kt")) | (apply w_isiE2; (· wtm_at "ty"); (· wtm_at "kt"); (· wtm_at "kt"))
  | refine w_iteT rfl ?_ | refine w_iteF rfl ?_ | (apply w_iteT; (· wtm_at "bb")) | (apply w_iteF; (· wtm_at "bb")))
local macro_rules | `(tactic| wtm_at "w") => `(tactic| repeat (first | wtm_at "1" | wtm_at "x"))
local macro_rules | `(tactic| wtm_at "x") => `(tactic| with_reducible first
  | (apply w_taken; (· wtm_at "lk"); (· wtm_at "nn"); (· wtm_at "nn")) | (apply w_eqD; (· wtm_at "vl"); (· wtm_at "vl"); (· wtm_at "pl"); (· wtm_at "pl")) | (apply w_neD; (· wtm_at "vl"); (· wtm_at "vl"); (· wtm_at "pl"); (· wtm_at "pl"))
  | (apply vR_row; (· assumption)) | (refine vR_frz (by assumption) ?_) | refine frz_let ?_
  | refine w_iteT rfl ?_ | refine w_iteF rfl ?_ | (apply w_iteT; (· wtm_at "bb")) | (apply w_iteF; (· wtm_at "bb")))
theorem w_dslX {r : D → Option Int → Option Int → Gp → DK → Prop} {te : DE} {tl th : DO} {s : DSt} {G : Gp} {Q : DK} (h : te s G fun x G1 => tl s G1 fun l G2 => th s G2 fun u G3 => r x l u G3 Q) : dSl r te tl th s G Q := h
theorem w_noPX {s : DSt} {G : Gp} {Q : Option Int → Gp → Prop} (q : Q none G) : dNoP s G Q := q
theorem w_partX {t : DE} {s : DSt} {G : Gp} {Q : Option Int → Gp → Prop} (h : t s G fun x G1 => ∃ i, x = .int i ∧ Q (some i) G1) : dPart t s G Q := h
theorem w_exI1 {P : Int → Prop} {i : Int} (h : P i) : ∃ j, D.int i = .int j ∧ P j := ⟨i, rfl, h⟩
theorem w_slTX {ds : List D} {lo hi : Option Int} {G : Gp} {Q : DK} (q : Q (.tup (cutD ds lo hi)) G) : eSlT (.tup ds) lo hi G Q := ⟨ds, rfl, q⟩
def cutL {α : Type} (xs : List α) (lo hi : Option Int) : List α := (xs.drop (HT.sIx xs.length 0 lo)).take (HT.sIx xs.length xs.length hi - HT.sIx xs.length 0 lo)
theorem cut_map {α : Type} (f : α → D) (xs : List α) (lo hi : Option Int) : cutD (xs.map f) lo hi = (cutL xs lo hi).map f := by
  unfold cutD cutL
  rw [List.length_map, List.map_take, List.map_drop]
theorem sIx_at {n d : Nat} {i : Int} (h0 : 0 ≤ i) (h1 : i ≤ n) : HT.sIx n d (some i) = i.toNat := by
  show (if i < 0 then (i + (n : Int)).toNat else min i.toNat n) = i.toNat
  rw [if_neg (by omega)]
  omega
theorem at_lit {ns : List Int} {j : Int} (h0 : 0 ≤ j) (h1 : j < ns.length) : ∃ m, atI (ns.map D.int) j = some (.int m) := ⟨_, map_at h0 h1⟩
theorem all_lk (ls : List Mg.Lk) {n : Nat} : (ls.map Mg.Lk.d).all (pl (n + 2)) = true := by
  induction ls with
  | nil => rfl
  | cons p ps ih => rw [List.map_cons, List.all_cons, ih]; rfl
local macro_rules | `(tactic| wtm_at "y") => `(tactic| repeat (first | wtm_at "w1" | with_reducible refine w_dslX ?_ | with_reducible refine w_noPX ?_ | with_reducible refine w_partX ?_ | with_reducible refine w_exI1 ?_ | with_reducible refine w_slTX ?_))
theorem r_L_spoilt {K : PySem.W.Frag} : Rd 10 (b_L_spoilt K) (sp_L_spoilt K) := by
  rintro _ G Q ⟨r, n, ls, rfl, hr, hlen, q⟩
  wtm_at "st"
  refine vN0 ?_
  unfold b_L_spoilt
  wtm_at "w"
  intro f0 hf0 hf1
  wtm_at "w"
  intro f1 hf2 hf3
  wtm_at "w"
  obtain ⟨far, hfar⟩ := at_lit (ns := [0, f0]) (j := f1) hf2 (by simpa using hf3)
  refine w_ixL rfl hfar ?_
  wtm_at "w"
  intro way hw0 hw1
  wtm_at "w"
  refine w_ite (fun c => ?_) (fun c => ?_)
  · wtm_at "w"
    intro i hi0 hi1
    wtm_at "w"
    obtain ⟨m, hm⟩ := at_lit (ns := [0, 7 + far, 0 - 1 - far, max 1 (n - 1)]) (j := i) hi0 (by simpa using hi1)
    refine w_ixL rfl hm ?_
    wtm_at "w"
    exact vR0 (q m ls (by omega))
  · wtm_at "w"
    refine w_ite (fun c1 => ?_) (fun c1 => ?_)
    · wtm_at "w"
      intro t ht0 ht1
      wtm_at "w"
      refine lc_pure (fun i => some (Mg.Lk.mk ((i : Int) % 5) ((i : Int) / 5) 5 ((i : Int) % 4)).d) (by omega) (fun _ _ _ => trivial) ?_ ?_
      · rintro i d p acc N M hi rfl hp hN hM
        rw [Int.zero_add] at *
        wtm_at "w"
        exact hN _ rfl
      · intro p hp
        wtm_at "w"
        have e : List.filterMap (fun (i : Nat) => some (Mg.Lk.mk ((i : Int) % 5) ((i : Int) / 5) 5 ((i : Int) % 4)).d) (List.range (10 + t).toNat) = ((List.range (10 + t).toNat).map fun (i : Nat) => Mg.Lk.mk ((i : Int) % 5) ((i : Int) / 5) 5 ((i : Int) % 4)).map Mg.Lk.d := by
          rw [List.filterMap_eq_map', List.map_map]
          rfl
        rw [e]
        exact vR0 (q 6 _ (by rw [List.length_map, List.length_range]; omega))
    · wtm_at "w"
      refine w_ite (fun c2 => ?_) (fun c2 => ?_)
      · wtm_at "w"
        intro t ht0 ht1
        wtm_at "w"
        refine lc_pure (fun i => some (Mg.Lk.mk ((i : Int) % 3 * 2) ((i : Int) / 3) ((i : Int) % 3 * 2 + 1) ((i : Int) / 3)).d) (by omega) (fun _ _ _ => trivial) ?_ ?_
        · rintro i d p acc N M hi rfl hp hN hM
          rw [Int.zero_add] at *
          wtm_at "w"
          refine ⟨_, _, rfl, rfl, .inr ⟨by decide, by decide⟩, ?_⟩
          wtm_at "w"
          refine ⟨_, _, rfl, rfl, .inr ⟨by decide, by decide⟩, ?_⟩
          wtm_at "w"
          exact hN _ rfl
        · intro p hp
          wtm_at "w"
          have e : List.filterMap (fun (i : Nat) => some (Mg.Lk.mk ((i : Int) % 3 * 2) ((i : Int) / 3) ((i : Int) % 3 * 2 + 1) ((i : Int) / 3)).d) (List.range (10 + t).toNat) = ((List.range (10 + t).toNat).map fun (i : Nat) => Mg.Lk.mk ((i : Int) % 3 * 2) ((i : Int) / 3) ((i : Int) % 3 * 2 + 1) ((i : Int) / 3)).map Mg.Lk.d := by
            rw [List.filterMap_eq_map', List.map_map]
            rfl
          rw [e]
          exact vR0 (q 6 _ (by rw [List.length_map, List.length_range]; omega))
      · wtm_at "w"
        refine w_eqD rfl rfl (all_lk _) rfl fun b hb => ?_
        wtm_at "w"
        refine w_ite (fun c3 => ?_) (fun c3 => ?_)
        · wtm_at "w"
          exact vR0 (q n [Mg.Lk.mk 0 0 (n + far) 1] (by simp; omega))
        · wtm_at "w"
          have hne : ls ≠ [] := fun z => by
            subst z
            rw [hb.mpr rfl] at c3
            cases c3
          have hpos : 0 < ls.length := List.length_pos_iff.mpr hne
          rw [List.length_map]
          wtm_at "w"
          intro at_ ha0 ha1
          wtm_at "w"
          obtain ⟨l, hl⟩ := getI_ok (ls := ls) ha0 ha1
          refine w_ixT (ls_at hl) ?_
          wtm_at "w"
          refine ⟨_, _, rfl, .inr rfl, fun p hp => ?_⟩
          have hpr : r ≠ p := fun z => by rw [← z, hr] at hp; cases hp
          wtm_at "w"
          intro k hk0 hk1
          wtm_at "w"
          obtain ⟨m1, hm1⟩ := at_lit (ns := [l.a, l.x, l.b, l.y]) (j := (k + 2) % 4) (by omega) (by simp; omega)
          refine w_ixL (lst_ref ud_same) hm1 ?_
          wtm_at "w"
          intro i5 hi0 hi1
          wtm_at "w"
          obtain ⟨m2, hm2⟩ := at_lit (ns := [0 - 1 - far, 6 + far, m1, 4, n]) (j := i5) hi0 (by simpa using hi1)
          refine w_ixL rfl hm2 ?_
          wtm_at "w"
          refine w_setL ud_same (ixN_pos hk0 (by simpa using hk1)) ?_
          rw [ud_ud]
          have hset : ∃ l2 : Mg.Lk, [D.int l.a, D.int l.x, D.int l.b, D.int l.y].set k.toNat (.int m2) = [D.int l2.a, D.int l2.x, D.int l2.b, D.int l2.y] := by
            obtain rfl | rfl | rfl | rfl : k = 0 ∨ k = 1 ∨ k = 2 ∨ k = 3 := by omega
            · exact ⟨⟨m2, l.x, l.b, l.y⟩, rfl⟩
            · exact ⟨⟨l.a, m2, l.b, l.y⟩, rfl⟩
            · exact ⟨⟨l.a, l.x, m2, l.y⟩, rfl⟩
            · exact ⟨⟨l.a, l.x, l.b, m2⟩, rfl⟩
          obtain ⟨l2, hl2⟩ := hset
          rw [hl2]
          wtm_at "w"
          refine w_ite (fun c4 => ?_) (fun c4 => ?_)
          · wtm_at "w"
            refine w_dslX ?_
            wtm_at "w"
            refine w_partX ?_
            wtm_at "w"
            refine w_exI1 (w_partX ?_)
            wtm_at "w"
            refine w_exI1 (w_slTX ?_)
            rw [cut_map]
            have hcl : (cutL ls (some at_) (some (at_ + 1))).length ≤ 1 := by
              unfold cutL
              rw [List.length_take, List.length_drop, sIx_at ha0 (by omega), sIx_at (by omega) (by omega)]
              omega
            refine w_catT (by rw [List.length_map, List.length_map]; omega) ?_
            wtm_at "w"
            rw [← List.map_append]
            exact vR_sub (sub_new hp sub_refl) (q n _ (by rw [List.length_append]; omega))
          · wtm_at "w"
            refine w_dslX ?_
            wtm_at "w"
            refine w_noPX (w_partX ?_)
            wtm_at "w"
            refine w_exI1 (w_slTX ?_)
            rw [cut_map]
            have hc1 : (cutL ls none (some at_)).length ≤ at_.toNat := by
              unfold cutL
              rw [List.length_take, List.length_drop, sIx_at ha0 (by omega)]
              show min (at_.toNat - 0) (ls.length - 0) ≤ at_.toNat
              omega
            wtm_at "w"
            refine w_catT (by rw [List.length_map]; simp; omega) ?_
            wtm_at "w"
            refine w_dslX ?_
            wtm_at "w"
            refine w_partX ?_
            wtm_at "w"
            refine w_exI1 (w_noPX (w_slTX ?_))
            rw [cut_map]
            have hc2 : (cutL ls (some (at_ + 1)) none).length ≤ ls.length - (at_ + 1).toNat := by
              unfold cutL
              rw [List.length_take, List.length_drop, sIx_at (by omega) (by omega)]
              omega
            refine w_catT (by rw [List.length_append, List.length_map, List.length_map]; simp; omega) ?_
            wtm_at "w"
            have e : (cutL ls none (some at_)).map Mg.Lk.d ++ [D.tup [D.int l2.a, D.int l2.x, D.int l2.b, D.int l2.y]] ++ (cutL ls (some (at_ + 1)) none).map Mg.Lk.d = (cutL ls none (some at_) ++ [l2] ++ cutL ls (some (at_ + 1)) none).map Mg.Lk.d := by
              rw [List.map_append, List.map_append]
              rfl
            rw [e]
            exact vR_sub (sub_new hp sub_refl) (q n _ (by rw [List.length_append, List.length_append]; simp; omega))
end Dg

namespace Dg
open PySem PySem.Spec L2

local macro_rules | `(tactic| wtm_at "ne") => `(tactic| first | assumption | (apply Ne.symm; assumption) | (grind [ud, er]))
local macro_rules | `(tactic| wtm_at "lk") => `(tactic| first | (with_reducible assumption) | (with_reducible exact ud_same) | ((with_reducible refine (ud_ne (by wtm_at "ne")).trans ?_); wtm_at "lk"))
local macro_rules | `(tactic| wtm_at "gl") => `(tactic| first | (with_reducible assumption) | (with_reducible exact lst_ref (by wtm_at "lk")) | (with_reducible exact lstOf_new (by assumption) (by assumption)) | (with_unfolding_all exact rfl))
local macro_rules | `(tactic| wtm_at "vl") => `(tactic| first | (with_reducible exact val_ref (by wtm_at "lk")) | (with_unfolding_all exact rfl))
local macro_rules | `(tactic| wtm_at "dk") => `(tactic| with_reducible first | exact dK_own (by wtm_at "lk") | exact dK_lk (by wtm_at "lk") | exact dT_own (by wtm_at "lk"))
local macro_rules | `(tactic| wtm_at "pl") => `(tactic| with_unfolding_all first | exact rfl | exact all_int _ | exact all_P2 _ | assumption)
local macro_rules | `(tactic| wtm_at "nn") => `(tactic| first | omega | decide | (simp only [List.length_cons, List.length_nil, List.length_map, List.length_append]; omega) | grind)
local macro_rules | `(tactic| wtm_at "st") => `(tactic| (simp only [stD, List.map_cons, List.map_nil, List.length_cons, List.length_nil, List.replicate, Nat.reduceAdd, Nat.reduceSub, List.cons_append, List.nil_append]))
local macro_rules | `(tactic| wtm_at "1") => `(tactic| with_reducible first
  | refine w_seq ?_ | refine w_asgN ?_ | refine w_asgS ?_ | refine w_asgT ?_ | refine w_ret ?_ | refine w_drop ?_ | refine w_ifS ?_ | refine w_test ?_ | refine w_next ?_
  | refine w_nx ?_ | refine w_nx0 ?_ | refine w_rt ?_ | refine w_bk ?_ | refine w_ct ?_
  | refine w_bl2 ?_ | refine w_and ?_ | refine w_or ?_ | refine w_not ?_ | refine w_andV ?_ | refine w_orV ?_ | refine w_notV ?_ | refine w_if ?_
  | (apply w_var; (· with_unfolding_all rfl)) | refine w_c ?_ | refine w_op ?_ | refine w_chain ?_ | refine w_nil ?_ | refine w_cons ?_ | refine w_tup ?_ | refine w_lst ?_
  | (apply w_len; (· wtm_at "nn")) | refine w_call ?_ | refine w_cb ?_ | refine w_isN ?_ | refine w_notN ?_ | refine w_fz ?_
  | refine w_add ?_ | refine w_sub ?_ | refine w_lt ?_ | refine w_le ?_ | refine w_gt ?_ | refine w_ge ?_ | (apply w_mod; (· wtm_at "nn")) | (apply w_div; (· wtm_at "nn"); (· wtm_at "nn"))
  | (apply w_eq; (· with_unfolding_all rfl)) | (apply w_ne; (· with_unfolding_all rfl))
  | (apply w_ixT; (· with_unfolding_all rfl)) | (apply w_ixL; (· wtm_at "gl"); (· with_unfolding_all rfl))
  | refine w_lenT ?_ | (apply w_lenL; (· wtm_at "gl")) | refine w_min2 ?_ | refine w_max2 ?_ | refine w_intB ?_ | (apply w_tupleL; (· wtm_at "gl"))
  | refine w_bm ?_ | refine w_bm0 ?_ | (apply w_ty; (· wtm_at "gl"))
  | (apply w_setL; (· wtm_at "lk"); (· with_unfolding_all rfl)) | (apply w_append; (· wtm_at "lk"); (· wtm_at "nn")) | (apply w_extend; (· wtm_at "lk"); (· wtm_at "gl"); (· wtm_at "nn"))
  | refine w_hcons ?_ | refine w_hnil ?_ | refine w_hname ?_ | (apply w_htup; (· with_unfolding_all rfl)) | (apply w_exT; (· with_unfolding_all rfl))
  | refine w_lcR1 ?_ | refine w_lcL ?_ | refine w_lcT ?_ | refine w_forR1 ?_ | refine w_forR2 ?_ | refine w_forL ?_ | refine w_forT ?_ | refine w_yes ?_ | refine w_cnm ?_ | (apply w_ctp; (· with_unfolding_all rfl))
  | (apply w_exL; (· wtm_at "gl")) | refine w_exTu ?_ | (apply w_exI; (· wtm_at "nn")) | (apply w_exI2; (· wtm_at "nn")) | refine w_exII ?_
  | refine w_disp ?_ | refine w_pnil ?_ | refine w_pcons ?_ | (apply w_dispE; (· wtm_at "lk"); (· with_unfolding_all rfl); (· wtm_at "nn"))
  | refine w_dget ?_ | refine w_din ?_ | refine w_dget1 ?_ | refine w_dput ?_ | refine w_dpop1 ?_ | refine w_lenSet ?_ | refine w_listRng ?_ | refine w_notInRng ?_
  | (apply w_inK; (· wtm_at "dk"); (· with_unfolding_all rfl)) | (apply w_inT; (· wtm_at "dk"); (· with_unfolding_all rfl))
  | (apply w_isK; (· wtm_at "dk")) | (apply w_isT; (· wtm_at "dk"))
  | (apply w_putK; (· wtm_at "lk"); (· with_unfolding_all rfl); (· wtm_at "nn")) | (apply w_putT; (· wtm_at "lk"); (· with_unfolding_all rfl); (· wtm_at "nn")))
local macro_rules | `(tactic| wtm_at "bb") => `(tactic| (simp only [isN, Bool.not_true, Bool.not_false, Bool.or_true, Bool.true_or, Bool.or_false, Bool.false_or, Bool.xor_true, Bool.xor_false]; done))
local macro_rules | `(tactic| wtm_at "kt") => `(tactic| with_reducible first | exact kb_tu_tu | exact kb_tu_li | exact kb_tu_bo | exact kb_tu_st | exact kb_tu_in | exact kb_li_tu | exact kb_li_li | exact kb_li_bo | exact kb_li_st | exact kb_li_in | exact kb_No_tu | exact kb_No_li | exact kb_No_bo | exact kb_No_st | exact kb_No_in | exact kb_bo_tu | exact kb_bo_li | exact kb_bo_bo | exact kb_bo_st | exact kb_bo_in | exact kb_in_tu | exact kb_in_li | exact kb_in_bo | exact kb_in_st | exact kb_in_in | exact kb_st_tu | exact kb_st_li | exact kb_st_bo | exact kb_st_st | exact kb_st_in)
local macro_rules | `(tactic| wtm_at "ty") => `(tactic| first | assumption | exact ty_ref (by wtm_at "lk") | (with_unfolding_all exact rfl))
local macro_rules | `(tactic| wtm_at "x") => `(tactic| with_reducible first
  | (apply w_taken; (· wtm_at "lk"); (· wtm_at "nn"); (· wtm_at "nn")) | (apply w_eqD; (· wtm_at "vl"); (· wtm_at "vl"); (· wtm_at "pl"); (· wtm_at "pl")) | (apply w_neD; (· wtm_at "vl"); (· wtm_at "vl"); (· wtm_at "pl"); (· wtm_at "pl"))
  | (apply vR_row; (· assumption)) | (refine vR_frz (by assumption) ?_) | refine frz_let ?_ | refine w_isi ?_ | refine w_isi2 ?_ | (apply w_isiE; (· wtm_at "ty"); (· wtm_at "kt")) | (apply w_isiE2; (· wtm_at "ty"); (· wtm_at "kt"); (· wtm_at "kt"))
  | refine w_iteT rfl ?_ | refine w_iteF rfl ?_ | (apply w_iteT; (· wtm_at "bb")) | (apply w_iteF; (· wtm_at "bb")))
local macro_rules | `(tactic| wtm_at "w") => `(tactic| repeat (first | wtm_at "1" | wtm_at "x"))
local macro_rules | `(tactic| wtm_at "x") => `(tactic| with_reducible first
  | (apply w_taken; (· wtm_at "lk"); (· wtm_at "nn"); (· wtm_at "nn")) | (apply w_eqD; (· wtm_at "vl"); (· wtm_at "vl"); (· wtm_at "pl"); (· wtm_at "pl")) | (apply w_neD; (· wtm_at "vl"); (· wtm_at "vl"); (· wtm_at "pl"); (· wtm_at "pl"))
  | (apply vR_row; (· assumption)) | (refine vR_frz (by assumption) ?_) | refine frz_let ?_
  | refine w_iteT rfl ?_ | refine w_iteF rfl ?_ | (apply w_iteT; (· wtm_at "bb")) | (apply w_iteF; (· wtm_at "bb")))
theorem badF_web {n : Int} {ls : List Mg.Lk} (hw : WebOk n ls) : badF n ls = none := by
  refine badF_no ⟨hw.n1, hw.n6⟩ fun i hi => ?_
  rw [badAt_eq hi]
  have hl10 := hw.len
  obtain ⟨k1, k2, k3, k4, k5, k6, k7, k8, k9⟩ := hw.ok _ (List.getElem_mem hi)
  have hends : endsL (ls.take (i + 1)) = endsL (ls.take i) ++ [ls[i].e1, ls[i].e2] := by
    rw [List.take_succ, List.getElem?_eq_getElem hi]
    exact endsL_snoc
  have hnd : (endsL (ls.take (i + 1))).Nodup := (endsL_sub (List.take_sublist _ _)).nodup hw.nd
  rw [hends, List.nodup_append] at hnd
  have m1 : ls[i].e1 ∉ endsL (ls.take i) := fun z => hnd.2.2 _ z ls[i].e1 (by simp) rfl
  have m2 : ls[i].e2 ∉ endsL (ls.take i) := fun z => hnd.2.2 _ z ls[i].e2 (by simp) rfl
  unfold lkBad doorB
  rw [decide_eq_true (show i < 10 by omega), decide_eq_true k1, decide_eq_true ⟨⟨k2, k3⟩, k6, k7⟩, decide_eq_true ⟨⟨k4, k5⟩, k8, k9⟩, decide_eq_false m1, decide_eq_false m2]
  rfl
theorem pl_wk (x : Str) (hx : PyData.strOk x = true) (k : Int) : pl 9 (.tup [.str x, .int k]) = true := by
  show (PyData.strOk x && (true && true)) = true
  rw [hx]
  rfl
/-- functions are forgotten -/
def noFn (G : Gp) : Gp := fun a => match G a with
  | some (.sm (.fn _ _)) => none
  | x => x
theorem noFn_sub {G : Gp} : ∀ a x, noFn G a = some x → G a = some x := fun a x h => by
  unfold noFn at h
  split at h
  · cases h
  · exact h
theorem noFn_no {G : Gp} {a : Addr} {L : LamR} {ds : Option (List D)} : noFn G a ≠ some (.sm (.fn L ds)) := fun h => by
  have h2 := noFn_sub _ _ h
  unfold noFn at h
  rw [h2] at h
  cases h
theorem noFn_at {G : Gp} {a : Addr} {x : GO} (h : G a = some x) (hx : ∀ L ds, x ≠ .sm (.fn L ds)) : noFn G a = some x := by
  unfold noFn
  rw [h]
  split
  · rename_i L ds e
    cases e
    exact absurd rfl (hx L ds)
  · rfl
theorem r_lawT {K : PySem.W.Frag} : Rd 7 (b_lawT K) (sp_lawT K) := by
  rintro _ G Q ⟨sc, ns, rfl, hs, hP, hsc, q⟩
  wtm_at "st"
  refine vN_sub noFn_sub ?_
  have hs : ScrAt K (noFn G) sc ns := hs.imp (fun h => noFn_at h fun L ds z => by cases z) id
  have hP : noFn G (tW K) = some (.sm (.tab qW none)) := noFn_at hP fun L ds z => by cases z
  have hnf : ∀ a L ds, noFn G a ≠ some (.sm (.fn L ds)) := fun a L ds => noFn_no
  generalize noFn G = G at *
  unfold b_lawT
  wtm_at "w"
  intro r hr
  wtm_at "w"
  have hr0 : ud (er G sc) r (gRow K) r = some (gRow K) := ud_same
  have hPr : tW K ≠ r := fun z => by rw [← z, er_ne (Ne.symm hsc), hP] at hr; cases hr
  have hP0 : ud (er G sc) r (gRow K) (tW K) = some (.sm (.tab qW none)) := by rw [ud_ne hPr, er_ne (Ne.symm hsc)]; exact hP
  have hn0 : ∀ a L ds, ud (er G sc) r (gRow K) a ≠ some (.sm (.fn L ds)) := fun a L ds z => by
    by_cases e : a = r
    · rw [e, ud_same] at z
      cases z
    · rw [ud_ne e] at z
      by_cases e2 : a = sc
      · rw [e2, er_same] at z
        cases z
      · rw [er_ne e2] at z
        exact hnf a L ds z
  generalize ud (er G sc) r (gRow K) = G0 at *
  refine for_st (fun _ (_ : Unit) => True) (fun _ => [some (.ref sc), some (.ref r), none, none, none, none, none]) (fun _ => G0) () trivial rfl rfl (fun _ _ _ _ => trivial) ?_ ?_
  · rintro t d ⟨⟩ ht rfl _
    wtm_at "w"
    refine ⟨r, 6, rfl, hr0, by decide, by decide, fun n ls hw _ => ?_⟩
    have hl10 := hw.len
    wtm_at "w"
    refine ⟨n, ls, rfl, by omega, badF_web hw, ?_⟩
    wtm_at "w"
    refine ⟨r, n, ls, rfl, hr0, by omega, fun n1 ls1 h1 => ?_⟩
    wtm_at "w"
    intro z hz0 hz1
    wtm_at "w"
    refine w_ite (fun c => ?_) (fun c => ?_)
    · wtm_at "w"
      refine ⟨r, n1, ls1, rfl, hr0, by omega, fun n2 ls2 h2 => ?_⟩
      have h3 : ls2.length ≤ 13 := by omega
      clear h2
      wtm_at "w"
      refine ⟨n2, ls2, rfl, by omega, ?_⟩
      cases hb : badF n2 ls2 with
      | none =>
        wtm_at "w"
        refine ⟨n2, ls2, rfl, by omega, hb, ?_⟩
        wtm_at "w"
        exact w_st () trivial (.keep (.keep (.drop (.drop (.drop (.drop (.drop .refl))))))) fun a x h => h
      | some k =>
        wtm_at "w"
        refine ⟨n2, ls2, none, rfl, hP0, fun G' p fs cl hsub hp hlen hcl hfn => ?_⟩
        have hP' : G' (tW K) = some (.sm (.tab qW none)) := hsub _ _ hP0 fun L z => by cases z
        wtm_at "w"
        refine lc_over (xs := fs) (φ := D.ref) (fun _ => none) (by omega) (fun u acc hu => ?_) ?_ ?_
        · exact lst_ref ((ud_ne fun z => by rw [← z, hp] at hu; cases hu).trans hp)
        · rintro f u acc N M hf hu hN hM
          obtain ⟨i, hi, rfl⟩ := List.getElem_of_mem hf
          have hfi := hfn i _ (List.getElem?_eq_getElem hi)
          have hfu : fs[i] ≠ u := fun z => by rw [z, hu] at hfi; cases hfi
          have hPu : tW K ≠ u := fun z => by rw [z, hu] at hP'; cases hP'
          wtm_at "w"
          refine ⟨fs[i], lmR i cl, [webD n2 ls2], none, k, rfl, (ud_ne hfu).trans hfi, (ud_ne hPu).trans hP', ⟨i, cl, n2, ls2, k, by omega, rfl, hcl, rfl, by omega, hb, rfl⟩, ?_⟩
          wtm_at "w"
          intro b hb
          have hbt : b = true := hb.mpr rfl
          subst hbt
          wtm_at "w"
          exact hM rfl
        · intro u hu
          wtm_at "w"
          have e0 : fs.filterMap (fun _ => (none : Option D)) = [] := by
            clear hlen hfn hp hsub
            induction fs with
            | nil => rfl
            | cons f fs ih => rw [List.filterMap_cons]; exact ih
          rw [e0]
          wtm_at "w"
          intro b hb
          have hbt : b = true := hb.mpr rfl
          subst hbt
          wtm_at "w"
          exact w_st () trivial (.keep (.keep (.drop (.drop (.drop (.drop (.drop .refl))))))) fun a x h => hsub a x h fun L z => hn0 a L none (by rw [h, z])
    · obtain ⟨n2, ls2, rfl, rfl⟩ : ∃ n2 ls2, n2 = n1 ∧ ls2 = ls1 := ⟨n1, ls1, rfl, rfl⟩
      have h3 : ls2.length ≤ 13 := by omega
      wtm_at "w"
      refine ⟨n2, ls2, rfl, by omega, ?_⟩
      cases hb : badF n2 ls2 with
      | none =>
        wtm_at "w"
        refine ⟨n2, ls2, rfl, by omega, hb, ?_⟩
        wtm_at "w"
        exact w_st () trivial (.keep (.keep (.drop (.drop (.drop (.drop (.drop .refl))))))) fun a x h => h
      | some k =>
        wtm_at "w"
        refine ⟨n2, ls2, none, rfl, hP0, fun G' p fs cl hsub hp hlen hcl hfn => ?_⟩
        have hP' : G' (tW K) = some (.sm (.tab qW none)) := hsub _ _ hP0 fun L z => by cases z
        wtm_at "w"
        refine lc_over (xs := fs) (φ := D.ref) (fun _ => none) (by omega) (fun u acc hu => ?_) ?_ ?_
        · exact lst_ref ((ud_ne fun z => by rw [← z, hp] at hu; cases hu).trans hp)
        · rintro f u acc N M hf hu hN hM
          obtain ⟨i, hi, rfl⟩ := List.getElem_of_mem hf
          have hfi := hfn i _ (List.getElem?_eq_getElem hi)
          have hfu : fs[i] ≠ u := fun z => by rw [z, hu] at hfi; cases hfi
          have hPu : tW K ≠ u := fun z => by rw [z, hu] at hP'; cases hP'
          wtm_at "w"
          refine ⟨fs[i], lmR i cl, [webD n2 ls2], none, k, rfl, (ud_ne hfu).trans hfi, (ud_ne hPu).trans hP', ⟨i, cl, n2, ls2, k, by omega, rfl, hcl, rfl, by omega, hb, rfl⟩, ?_⟩
          wtm_at "w"
          intro b hb
          have hbt : b = true := hb.mpr rfl
          subst hbt
          wtm_at "w"
          exact hM rfl
        · intro u hu
          wtm_at "w"
          have e0 : fs.filterMap (fun _ => (none : Option D)) = [] := by
            clear hlen hfn hp hsub
            induction fs with
            | nil => rfl
            | cons f fs ih => rw [List.filterMap_cons]; exact ih
          rw [e0]
          wtm_at "w"
          intro b hb
          have hbt : b = true := hb.mpr rfl
          subst hbt
          wtm_at "w"
          exact w_st () trivial (.keep (.keep (.drop (.drop (.drop (.drop (.drop .refl))))))) fun a x h => hsub a x h fun L z => hn0 a L none (by rw [h, z])
  · rintro ⟨⟩ _
    wtm_at "w"
    exact vR0 (q _)
end Dg

/-! The law begins: the script and the table stand. -/
namespace Dg
open PySem PySem.Spec L2
theorem sm_tab0 {F : Fz} {H : Hp} {q : Str} : Sm F H (.tab q none) (.tbl #[]) := by
  refine ⟨⟨#[], rfl, True.intro, fun pos cv hc => ?_⟩, fun p hp => by cases hp⟩
  have z : codeAmong pos [] = some cv := hc
  simp [codeAmong] at z
theorem lawT_start {K : PySem.W.Frag} {H : Hp} {a : Addr} {ns : List Int} (ht : H (tW K) = some (.tbl #[])) (hs : SqL K H a (ns.map V.int)) (hk : K.lookup (tW K) = none) (E : XK) : lSp (sp_lawT K) [.ref a] H (fun v _ => v = .bl true) E := by
  have fin : Kc (fun _ => False) H (fun v _ => v = V.bl true) (fun d _ => d = D.bl true) := fun v H' F' d G' e g i q => by
    subst q
    exact is_bl.mp i
  rcases hs with hs | hs
  · have hsm : ∃ h, H a = some h ∧ Sm (fun _ => False) H (.scr ns) h := by
      rcases hs with hs | ⟨o, hs⟩
      · exact ⟨_, hs, .inl rfl⟩
      · exact ⟨_, hs, .inr ⟨o, rfl⟩⟩
    obtain ⟨h, ha, sm⟩ := hsm
    have ne : a ≠ tW K := fun z => by
      rw [z, ht] at ha
      cases ha
      rcases sm with q | ⟨o, q⟩ <;> cases q
    refine ⟨fun _ => False, [.ref a], fun b => if b = a then some (.sm (.scr ns)) else if b = tW K then some (.sm (.tab qW none)) else none, fun d _ => d = .bl true, IsL.cons (is_ref.mpr rfl) IsL.nil,
      ⟨fun _ z => z.elim, fun b => if b = a then some (.scr ns) else if b = tW K then some (.tab qW none) else none, id, ?_, ?_⟩, ⟨a, ns, rfl, .inl (if_pos rfl), (if_neg (Ne.symm ne)).trans (if_pos rfl), ne, fun _ => rfl⟩, fin⟩
    · intro b x e
      dsimp only at e
      by_cases hb : b = a
      · rw [if_pos hb] at e
        cases e
        subst hb
        exact ⟨fun z => z, h, ha, sm⟩
      · rw [if_neg hb] at e
        by_cases hb2 : b = tW K
        · rw [if_pos hb2] at e
          cases e
          subst hb2
          exact ⟨fun z => z, _, ht, sm_tab0⟩
        · rw [if_neg hb2] at e
          cases e
    · intro b x e
      dsimp only at e
      by_cases hb : b = a
      · rw [if_pos hb] at e
        cases e
        exact ⟨rfl, if_pos hb⟩
      · rw [if_neg hb] at e
        by_cases hb2 : b = tW K
        · rw [if_pos hb2] at e
          cases e
          exact ⟨rfl, (if_neg hb).trans (if_pos hb2)⟩
        · rw [if_neg hb2] at e
          cases e
  · have ne : a ≠ tW K := fun z => by
      obtain ⟨o, its, n, h1, _⟩ := hs
      rw [z, hk] at h1
      cases h1
    refine ⟨fun _ => False, [.ref a], fun b => if b = tW K then some (.sm (.tab qW none)) else none, fun d _ => d = .bl true, IsL.cons (is_ref.mpr rfl) IsL.nil,
      ⟨fun _ z => z.elim, fun b => if b = tW K then some (.tab qW none) else none, id, ?_, ?_⟩, ⟨a, ns, rfl, .inr hs, if_pos rfl, ne, fun _ => rfl⟩, fin⟩
    · intro b x e
      dsimp only at e
      by_cases hb2 : b = tW K
      · rw [if_pos hb2] at e
        cases e
        subst hb2
        exact ⟨fun z => z, _, ht, sm_tab0⟩
      · rw [if_neg hb2] at e
        cases e
    · intro b x e
      dsimp only at e
      by_cases hb2 : b = tW K
      · rw [if_pos hb2] at e
        cases e
        exact ⟨rfl, if_pos hb2⟩
      · rw [if_neg hb2] at e
        cases e
end Dg


namespace Dg
open PySem PySem.Spec L2 Hd
section
variable {P : Program} {w : World} {K : PySem.W.Frag} {mg : Str → Option Value} {base : Heap}
def N_is_door : List Str := ["boxes", "box", "door"]
theorem sc_is_door : FnScope N_is_door ["boxes", "box", "door"] (defScope s_is_door) := ⟨rfl, rfl, rfl, by decide +kernel, rfl, by decide +kernel, by decide +kernel⟩
theorem fn_is_door (T : Tx K mg) : Fn P w K mg base "is_door" ["boxes", "box", "door"] 1 (sp_is_door K) := by
  obtain ⟨fd, F⟩ := T.d_is_door
  refine ⟨_, fd, fn_ok F sc_is_door len_is_door (fun cdv A outer s H E hr => ?_) r_is_door, T.g_is_door, F.kp, F.bindsN fun _ _ _ _ _ _ us hl => match us, hl with | [_, _, _], _ => rfl⟩
  exact (qss_one (qs_ret (qe_and (qe_chain op_le sr_le op_lt sr_lt qe_int (qv 1) (qv 0)) (qe_one (qe_chain op_le sr_le op_lt sr_lt qe_int (qv 2) (qe_gint rfl T.i_DOORS))))))
def N_L_taken : List Str := ["_law_row", "_law_many", "_law_found", "_law_cell"]
theorem sc_L_taken : FnScope N_L_taken ["_law_row", "_law_many"] (defScope sL_taken) := ⟨rfl, rfl, rfl, by decide +kernel, rfl, by decide +kernel, by decide +kernel⟩
theorem fn_L_taken (T : Tx K mg) : Fn P w K mg base "_law_taken" ["_law_row", "_law_many"] 1 (sp_L_taken K) := by
  obtain ⟨fd, F⟩ := T.d_L_taken
  refine ⟨_, fd, fn_ok F sc_L_taken len_L_taken (fun cdv A outer s H E hr => ?_) r_L_taken, T.g_L_taken, F.kp, F.bindsN fun _ _ _ _ _ _ us hl => match us, hl with | [_, _], _ => rfl⟩
  exact (qss_cons (qs_if (qt_cmp op_gt sr_gt (qe_ix ix_list sr_ixL (qv 0) qe_int) qe_int) (qss_cons (qs_set (i := 2) sc_L_taken.nd rfl (by first | exact Or.inl rfl | exact Or.inr rfl) (qe_op op_mod sr_mod (qe_ix ix_list sr_ixL (qv 0) qe_int) (qv 1)))
    (qss_cons (qs_asg (qe_op op_fdiv sr_div (qe_ix ix_list sr_ixL (qv 0) qe_int) (qv 1)) (qg_sub (qv 0) qe_int set_list ss_setL))
    (qss_one (qs_ret (qv 2))))) qss_nil)
    (qss_cons (qs_asg (qe_op op_add sr_add (qe_ix ix_list sr_ixL (qv 0) qe_int) qe_int) (qg_sub (qv 0) qe_int set_list ss_setL))
    (qss_cons (qs_if (qt_cmp op_gt sr_gt (qe_ix ix_list sr_ixL (qv 0) qe_int) (qe_callB call_len_seq sc_lenS rfl T.m_len (by decide +kernel) (qa_cons (qe_ix ix_list sr_ixL (qv 0) qe_int) qa_nil))) (qss_cons (qs_asg (qe_op op_mod sr_mod (qe_op op_add sr_add (qe_op op_mul sr_mul (qe_ix ix_list sr_ixL (qv 0) qe_int) qe_int) qe_int) qe_int) (qg_sub (qv 0) qe_int set_list ss_setL))
    (qss_one (qs_ret (qe_op op_mod sr_mod (qe_op op_fdiv sr_div (qe_ix ix_list sr_ixL (qv 0) qe_int) qe_int) (qv 1))))) qss_nil)
    (qss_cons (qs_set (i := 3) sc_L_taken.nd rfl (by first | exact Or.inl rfl | exact Or.inr rfl) (qe_ix ix_list sr_ixS (qe_ix ix_list sr_ixL (qv 0) qe_int) (qe_op op_sub sr_sub (qe_ix ix_list sr_ixL (qv 0) qe_int) qe_int)))
    (qss_cons (qs_asg (qe_op op_mod sr_mod (qe_op op_add sr_add (qe_op op_add sr_add (qe_op op_mul sr_mul (qe_ix ix_list sr_ixL (qv 0) qe_int) qe_int) (qv 3)) qe_int) qe_int) (qg_sub (qv 0) qe_int set_list ss_setL))
    (qss_cons (qs_if (qt_cmp op_ge sr_ge (qv 3) (qe_op op_pow sr_pow qe_int qe_int)) (qss_one (qs_asg (qe_op op_fdiv sr_div (qv 3) (qv 1)) (qg_sub (qv 0) qe_int set_list ss_setL))) qss_nil)
    (qss_one (qs_ret (qe_op op_mod sr_mod (qv 3) (qv 1))))))))))
def N_L_free : List Str := ["_law_used", "_law_box", "_law_door"]
theorem sc_L_free : FnScope N_L_free ["_law_used", "_law_box"] (defScope sL_free) := ⟨rfl, rfl, rfl, by decide +kernel, rfl, by decide +kernel, by decide +kernel⟩
theorem fn_L_free (T : Tx K mg) : Fn P w K mg base "_law_free" ["_law_used", "_law_box"] 1 (sp_L_free K) := by
  obtain ⟨fd, F⟩ := T.d_L_free
  refine ⟨_, fd, fn_ok F sc_L_free len_L_free (fun cdv A outer s H E hr => ?_) r_L_free, T.g_L_free, F.kp, F.bindsN fun _ _ _ _ _ _ us hl => match us, hl with | [_, _], _ => rfl⟩
  exact (qss_one (qs_ret (qe_lcR1 (own := [("_law_door", 2)]) rfl sc_L_free.nd rfl T.m_range (qa_cons qe_int qa_nil) (blkOk_by (N := N_L_free) (sc := defScope sL_free) (own := [("_law_door", 2)]) (by decide +kernel)) (c := (.nm 2)) (tt := (dTest (dOp (eInD true) (dTup (dCons (dVar 1) (dCons (dVar 2) dNil))) (dVar 0)))) (fun _ _ _ _ _ => pg_name (i := 2) sc_L_free.nd rfl (by first | exact Or.inl rfl | exact Or.inr rfl)) (fun _ _ _ _ _ => pts_one (qt_cmp (op_notInD (hu65 hr)) sr_notInD (qe_tup (qa_cons (qv 1) (qa_cons (qv 2) qa_nil))) (qv 0))) tt_id (fun _ _ _ _ _ => (qv 2)) (by decide))))
def N_L_link : List Str := ["_law_row", "_law_used", "_law_one", "_law_other", "_law_door", "_law_its_door"]
theorem sc_L_link : FnScope N_L_link ["_law_row", "_law_used", "_law_one", "_law_other"] (defScope sL_link) := ⟨rfl, rfl, rfl, by decide +kernel, rfl, by decide +kernel, by decide +kernel⟩
theorem fn_L_link (T : Tx K mg) (h_L_free : Fn P w K mg base "_law_free" ["_law_used", "_law_box"] 1 (sp_L_free K)) (h_L_taken : Fn P w K mg base "_law_taken" ["_law_row", "_law_many"] 1 (sp_L_taken K)) : Fn P w K mg base "_law_link" ["_law_row", "_law_used", "_law_one", "_law_other"] 2 (sp_L_link K) := by
  obtain ⟨fd, F⟩ := T.d_L_link
  refine ⟨_, fd, fn_ok F sc_L_link len_L_link (fun cdv A outer s H E hr => ?_) r_L_link, T.g_L_link, F.kp, F.bindsN fun _ _ _ _ _ _ us hl => match us, hl with | [_, _, _, _], _ => rfl⟩
  exact (qss_cons (qs_if (qt_w (qw_or (qt_cmp (op_eqD hr.units) sr_eqD (qe_fn h_L_free hr (by decide) rfl (qa_cons (qv 1) (qa_cons (qv 2) qa_nil))) (qe_fz (qe_lst qa_nil))) (qw_or1 (qt_cmp (op_eqD hr.units) sr_eqD (qe_fn h_L_free hr (by decide) rfl (qa_cons (qv 1) (qa_cons (qv 3) qa_nil))) (qe_fz (qe_lst qa_nil)))))) (qss_one (qs_ret qe_non)) qss_nil)
    (qss_cons (qs_set (i := 4) sc_L_link.nd rfl (by first | exact Or.inl rfl | exact Or.inr rfl) (qe_ix ix_list sr_ixL (qe_fn h_L_free hr (by decide) rfl (qa_cons (qv 1) (qa_cons (qv 2) qa_nil))) (qe_fn h_L_taken hr (by decide) rfl (qa_cons (qv 0) (qa_cons (qe_callB call_len_seq sc_len rfl T.m_len (by decide +kernel) (qa_cons (qe_fn h_L_free hr (by decide) rfl (qa_cons (qv 1) (qa_cons (qv 2) qa_nil))) qa_nil)) qa_nil)))))
    (qss_cons (qs_set (i := 5) sc_L_link.nd rfl (by first | exact Or.inl rfl | exact Or.inr rfl) (qe_ix ix_list sr_ixL (qe_fn h_L_free hr (by decide) rfl (qa_cons (qv 1) (qa_cons (qv 3) qa_nil))) (qe_fn h_L_taken hr (by decide) rfl (qa_cons (qv 0) (qa_cons (qe_callB call_len_seq sc_len rfl T.m_len (by decide +kernel) (qa_cons (qe_fn h_L_free hr (by decide) rfl (qa_cons (qv 1) (qa_cons (qv 3) qa_nil))) qa_nil)) qa_nil)))))
    (qss_cons (qs_expr (qe_bm PySem.F.plainAttrs_list PySem.F.slot_list_extend PySem.F.type_list_extend mt_extend sm_extend (qv 1) (qa_cons (qe_fz (qe_lst (qa_cons (qe_tup (qa_cons (qv 2) (qa_cons (qv 4) qa_nil))) (qa_cons (qe_tup (qa_cons (qv 3) (qa_cons (qv 5) qa_nil))) qa_nil)))) qa_nil)))
    (qss_one (qs_ret (qe_ix ix_list sr_ixL (qe_fz (qe_lst (qa_cons (qe_tup (qa_cons (qv 2) (qa_cons (qv 4) (qa_cons (qv 3) (qa_cons (qv 5) qa_nil))))) (qa_cons (qe_tup (qa_cons (qv 3) (qa_cons (qv 5) (qa_cons (qv 2) (qa_cons (qv 4) qa_nil))))) qa_nil)))) (qe_fn h_L_taken hr (by decide) rfl (qa_cons (qv 0) (qa_cons qe_int qa_nil))))))))))
def N_L_web : List Str := ["_law_row", "_law_rings", "_law_boxes", "_law_used", "_law_some", "_law_box", "_law_k", "_law_one", "_law_links", "_law_link_here"]
theorem sc_L_web : FnScope N_L_web ["_law_row", "_law_rings"] (defScope sL_web) := ⟨rfl, rfl, rfl, by decide +kernel, rfl, by decide +kernel, by decide +kernel⟩
theorem fn_L_web (T : Tx K mg) (h_L_taken : Fn P w K mg base "_law_taken" ["_law_row", "_law_many"] 1 (sp_L_taken K)) (h_L_link : Fn P w K mg base "_law_link" ["_law_row", "_law_used", "_law_one", "_law_other"] 2 (sp_L_link K)) : Fn P w K mg base "_law_web" ["_law_row", "_law_rings"] 3 (sp_L_web K) := by
  obtain ⟨fd, F⟩ := T.d_L_web
  refine ⟨_, fd, fn_ok F sc_L_web len_L_web (fun cdv A outer s H E hr => ?_) r_L_web, T.g_L_web, F.kp, F.bindsN fun _ _ _ _ _ _ us hl => match us, hl with | [_, _], _ => rfl⟩
  exact (qss_cons (qs_set (i := 2) sc_L_web.nd rfl (by first | exact Or.inl rfl | exact Or.inr rfl) (qe_op op_add sr_add qe_int (qe_fn h_L_taken hr (by decide) rfl (qa_cons (qv 0) (qa_cons qe_int qa_nil)))))
    (qss_cons (qs_set (i := 3) sc_L_web.nd rfl (by first | exact Or.inl rfl | exact Or.inr rfl) (qe_lst (qa_cons (qe_tup (qa_cons (qe_op op_sub sr_sub (qv 2) qe_int) (qa_cons qe_int qa_nil))) qa_nil)))
    (qss_cons (qs_set (i := 4) sc_L_web.nd rfl (by first | exact Or.inl rfl | exact Or.inr rfl) (qe_lst qa_nil))
    (qss_cons (qs_forR2 PassesOwn.never rfl rfl T.m_range (qa_cons qe_int (qa_cons (qv 2) qa_nil)) (qg_name (i := 5) sc_L_web.nd rfl (by first | exact Or.inl rfl | exact Or.inr rfl)) (qss_one (qs_if (qt_cmp op_lt sr_lt (qe_fn h_L_taken hr (by decide) rfl (qa_cons (qv 0) (qa_cons qe_int qa_nil))) qe_int) (qss_one (qs_expr (qe_bm PySem.F.plainAttrs_list PySem.F.slot_list_append PySem.F.type_list_append mt_append sm_append (qv 4) (qa_cons (qe_fn h_L_link hr (by decide) rfl (qa_cons (qv 0) (qa_cons (qv 3) (qa_cons (qe_fn h_L_taken hr (by decide) rfl (qa_cons (qv 0) (qa_cons (qv 5) qa_nil))) (qa_cons (qv 5) qa_nil))))) qa_nil)))) qss_nil)))
    (qss_cons (qs_forR1 PassesOwn.never rfl rfl T.m_range (qa_cons (qe_op op_mul sr_mul (qe_fn h_L_taken hr (by decide) rfl (qa_cons (qv 0) (qa_cons (qe_op op_add sr_add (qv 1) qe_int) qa_nil))) (qe_callTy call_int1 sc_int rfl T.m_int (by decide +kernel) (qa_cons (qe_cmp op_gt sr_gt (qv 2) qe_int) qa_nil))) qa_nil) (qg_name (i := 6) sc_L_web.nd rfl (by first | exact Or.inl rfl | exact Or.inr rfl)) (qss_cons (qs_set (i := 7) sc_L_web.nd rfl (by first | exact Or.inl rfl | exact Or.inr rfl) (qe_fn h_L_taken hr (by decide) rfl (qa_cons (qv 0) (qa_cons (qv 2) qa_nil))))
    (qss_one (qs_expr (qe_bm PySem.F.plainAttrs_list PySem.F.slot_list_append PySem.F.type_list_append mt_append sm_append (qv 4) (qa_cons (qe_fn h_L_link hr (by decide) rfl (qa_cons (qv 0) (qa_cons (qv 3) (qa_cons (qv 7) (qa_cons (qe_op op_mod sr_mod (qe_op op_add sr_add (qe_op op_add sr_add (qv 7) qe_int) (qe_fn h_L_taken hr (by decide) rfl (qa_cons (qv 0) (qa_cons (qe_op op_sub sr_sub (qv 2) qe_int) qa_nil)))) (qv 2)) qa_nil))))) qa_nil))))))
    (qss_cons (qs_set (i := 8) sc_L_web.nd rfl (by first | exact Or.inl rfl | exact Or.inr rfl) (qe_lst qa_nil))
    (qss_cons (qs_forL PassesOwn.never rfl (qv 4) (qg_name (i := 9) sc_L_web.nd rfl (by first | exact Or.inl rfl | exact Or.inr rfl)) (qss_one (qs_if (qt_w (qw_and (qt_notN (qv 9)) (qw_and1 (qt_cmp op_lt sr_lt (qe_callB call_len_seq sc_len rfl T.m_len (by decide +kernel) (qa_cons (qv 8) qa_nil)) qe_int)))) (qss_one (qs_expr (qe_bm PySem.F.plainAttrs_list PySem.F.slot_list_insert PySem.F.type_list_insert mt_insert sm_insert (qv 8) (qa_cons (qe_fn h_L_taken hr (by decide) rfl (qa_cons (qv 0) (qa_cons (qe_op op_add sr_add (qe_callB call_len_seq sc_len rfl T.m_len (by decide +kernel) (qa_cons (qv 8) qa_nil)) qe_int) qa_nil))) (qa_cons (qv 9) qa_nil))))) qss_nil)))
    (qss_one (qs_ret (qe_tup (qa_cons (qv 2) (qa_cons (qe_callTy call_tuple_of sc_tuple rfl T.m_tuple (by decide +kernel) (qa_cons (qv 8) qa_nil)) qa_nil))))))))))))
def N_L_bad : List Str := ["_law_web_here", "_law_boxes", "_law_links", "_law_met", "_law_number", "_law_one", "_law_door", "_law_other", "_law_its_door", "_law_box", "_law_way"]
theorem sc_L_bad : FnScope N_L_bad ["_law_web_here"] (defScope sL_bad) := ⟨rfl, rfl, rfl, by decide +kernel, rfl, by decide +kernel, by decide +kernel⟩
theorem fn_L_bad (T : Tx K mg) : Fn P w K mg base "_law_bad" ["_law_web_here"] 1 (sp_L_bad K) := by
  obtain ⟨fd, F⟩ := T.d_L_bad
  refine ⟨_, fd, fn_ok F sc_L_bad len_L_bad (fun cdv A outer s H E hr => ?_) r_L_bad, T.g_L_bad, F.kp, F.bindsN fun _ _ _ _ _ _ us hl => match us, hl with | [_], _ => rfl⟩
  exact (qss_cons (qs_asg (qv 0) (qg_tup rfl (qgs_cons (qg_name (i := 1) sc_L_bad.nd rfl (by first | exact Or.inl rfl | exact Or.inr rfl)) (qgs_cons (qg_name (i := 2) sc_L_bad.nd rfl (by first | exact Or.inl rfl | exact Or.inr rfl)) qgs_nil))))
    (qss_cons (qs_if (qt_cmp op_notIn_seq sr_inF (qv 1) (qe_tup (qa_cons qe_int (qa_cons qe_int (qa_cons qe_int (qa_cons qe_int (qa_cons qe_int (qa_cons qe_int qa_nil)))))))) (qss_one (qs_ret (qe_op op_sub sr_sub qe_int qe_int))) qss_nil)
    (qss_cons (qs_set (i := 3) sc_L_bad.nd rfl (by first | exact Or.inl rfl | exact Or.inr rfl) (qe_fz (qe_lst qa_nil)))
    (qss_cons (qs_forR1 PassesOwn.never rfl rfl T.m_range (qa_cons (qe_callB call_len_seq sc_len rfl T.m_len (by decide +kernel) (qa_cons (qv 2) qa_nil)) qa_nil) (qg_name (i := 4) sc_L_bad.nd rfl (by first | exact Or.inl rfl | exact Or.inr rfl)) (qss_cons (qs_asg (qe_ix ix_tup sr_ixT (qv 2) (qv 4)) (qg_tup rfl (qgs_cons (qg_name (i := 5) sc_L_bad.nd rfl (by first | exact Or.inl rfl | exact Or.inr rfl)) (qgs_cons (qg_name (i := 6) sc_L_bad.nd rfl (by first | exact Or.inl rfl | exact Or.inr rfl)) (qgs_cons (qg_name (i := 7) sc_L_bad.nd rfl (by first | exact Or.inl rfl | exact Or.inr rfl)) (qgs_cons (qg_name (i := 8) sc_L_bad.nd rfl (by first | exact Or.inl rfl | exact Or.inr rfl)) qgs_nil))))))
    (qss_cons (qs_if (qt_w (qw_or (qt_cmp op_gt sr_gt (qv 4) qe_int) (qw_or (qt_cmp op_eq sr_eq (qv 5) (qv 7)) (qw_or (qt_cmp (op_inD (hu65 hr)) sr_inD (qe_tup (qa_cons (qv 5) (qa_cons (qv 6) qa_nil))) (qv 3)) (qw_or1 (qt_cmp (op_inD (hu65 hr)) sr_inD (qe_tup (qa_cons (qv 7) (qa_cons (qv 8) qa_nil))) (qv 3))))))) (qss_one (qs_ret (qv 4))) qss_nil)
    (qss_cons (qs_if (qt_cmp (op_neD hr.units) sr_neD (qe_fz (qe_lcT (own := [("_law_box", 9)]) rfl sc_L_bad.nd (qe_tup (qa_cons (qv 5) (qa_cons (qv 7) qa_nil))) (blkOk_by (N := N_L_bad) (sc := defScope sL_bad) (own := [("_law_box", 9)]) (by decide +kernel)) (c := (.nm 9)) (tt := (dTest (dNotInRng (dVar 9) (dVar 1)))) (fun _ _ _ _ _ => pg_name (i := 9) sc_L_bad.nd rfl (by first | exact Or.inl rfl | exact Or.inr rfl)) (fun _ _ _ _ _ => pts_one (qt_notInRng rfl T.m_range (qv 9) (qv 1))) tt_id (fun _ _ _ _ _ => (qv 9)) (by decide))) (qe_fz (qe_lst qa_nil))) (qss_one (qs_ret (qv 4))) qss_nil)
    (qss_cons (qs_if (qt_cmp (op_neD hr.units) sr_neD (qe_fz (qe_lcT (own := [("_law_way", 10)]) rfl sc_L_bad.nd (qe_tup (qa_cons (qv 6) (qa_cons (qv 8) qa_nil))) (blkOk_by (N := N_L_bad) (sc := defScope sL_bad) (own := [("_law_way", 10)]) (by decide +kernel)) (c := (.nm 10)) (tt := (dTest (dOp (eInF true) (dVar 10) (dTup (dCons (dC (.int 0)) (dCons (dC (.int 1)) (dCons (dC (.int 2)) (dCons (dC (.int 3)) dNil)))))))) (fun _ _ _ _ _ => pg_name (i := 10) sc_L_bad.nd rfl (by first | exact Or.inl rfl | exact Or.inr rfl)) (fun _ _ _ _ _ => pts_one (qt_cmp op_notIn_seq sr_inF (qv 10) (qe_tup (qa_cons qe_int (qa_cons qe_int (qa_cons qe_int (qa_cons qe_int qa_nil))))))) tt_id (fun _ _ _ _ _ => (qv 10)) (by decide))) (qe_fz (qe_lst qa_nil))) (qss_one (qs_ret (qv 4))) qss_nil)
    (qss_one (qs_set (i := 3) sc_L_bad.nd rfl (by first | exact Or.inl rfl | exact Or.inr rfl) (qe_fz (qe_op op_cat sr_cat (qv 3) (qe_fz (qe_lst (qa_cons (qe_tup (qa_cons (qv 5) (qa_cons (qv 6) qa_nil))) (qa_cons (qe_tup (qa_cons (qv 7) (qa_cons (qv 8) qa_nil))) qa_nil)))))))))))))
    (qss_one (qs_ret qe_non))))))
def N_L_spoilt : List Str := ["_law_row", "_law_web_here", "_law_boxes", "_law_links", "_law_far", "_law_way", "_law_many", "_law_k", "_law_at", "_law_part"]
theorem sc_L_spoilt : FnScope N_L_spoilt ["_law_row", "_law_web_here"] (defScope sL_spoilt) := ⟨rfl, rfl, rfl, by decide +kernel, rfl, by decide +kernel, by decide +kernel⟩
theorem fn_L_spoilt (T : Tx K mg) (h_L_taken : Fn P w K mg base "_law_taken" ["_law_row", "_law_many"] 1 (sp_L_taken K)) : Fn P w K mg base "_law_spoilt" ["_law_row", "_law_web_here"] 2 (sp_L_spoilt K) := by
  obtain ⟨fd, F⟩ := T.d_L_spoilt
  refine ⟨_, fd, fn_ok F sc_L_spoilt len_L_spoilt (fun cdv A outer s H E hr => ?_) r_L_spoilt, T.g_L_spoilt, F.kp, F.bindsN fun _ _ _ _ _ _ us hl => match us, hl with | [_, _], _ => rfl⟩
  exact (qss_cons (qs_asg (qv 1) (qg_tup rfl (qgs_cons (qg_name (i := 2) sc_L_spoilt.nd rfl (by first | exact Or.inl rfl | exact Or.inr rfl)) (qgs_cons (qg_name (i := 3) sc_L_spoilt.nd rfl (by first | exact Or.inl rfl | exact Or.inr rfl)) qgs_nil))))
    (qss_cons (qs_set (i := 4) sc_L_spoilt.nd rfl (by first | exact Or.inl rfl | exact Or.inr rfl) (qe_ix ix_list sr_ixL (qe_fz (qe_lst (qa_cons qe_int (qa_cons (qe_fn h_L_taken hr (by decide) rfl (qa_cons (qv 0) (qa_cons qe_int qa_nil))) qa_nil)))) (qe_fn h_L_taken hr (by decide) rfl (qa_cons (qv 0) (qa_cons qe_int qa_nil)))))
    (qss_cons (qs_set (i := 5) sc_L_spoilt.nd rfl (by first | exact Or.inl rfl | exact Or.inr rfl) (qe_fn h_L_taken hr (by decide) rfl (qa_cons (qv 0) (qa_cons qe_int qa_nil))))
    (qss_cons (qs_if (qt_cmp op_eq sr_eq (qv 5) qe_int) (qss_one (qs_ret (qe_tup (qa_cons (qe_ix ix_list sr_ixL (qe_fz (qe_lst (qa_cons qe_int (qa_cons (qe_op op_add sr_add qe_int (qv 4)) (qa_cons (qe_op op_sub sr_sub (qe_op op_sub sr_sub qe_int qe_int) (qv 4)) (qa_cons (qe_callB (call_max2 rfl) sc_max2 rfl T.m_max (by decide +kernel) (qa_cons qe_int (qa_cons (qe_op op_sub sr_sub (qv 2) qe_int) qa_nil))) qa_nil)))))) (qe_fn h_L_taken hr (by decide) rfl (qa_cons (qv 0) (qa_cons qe_int qa_nil)))) (qa_cons (qv 3) qa_nil))))) qss_nil)
    (qss_cons (qs_if (qt_cmp op_eq sr_eq (qv 5) qe_int) (qss_cons (qs_set (i := 6) sc_L_spoilt.nd rfl (by first | exact Or.inl rfl | exact Or.inr rfl) (qe_op op_add sr_add qe_int (qe_fn h_L_taken hr (by decide) rfl (qa_cons (qv 0) (qa_cons qe_int qa_nil)))))
    (qss_one (qs_ret (qe_tup (qa_cons qe_int (qa_cons (qe_callTy call_tuple_of sc_tuple rfl T.m_tuple (by decide +kernel) (qa_cons (qe_fz (qe_lcR1 (own := [("_law_k", 7)]) rfl sc_L_spoilt.nd rfl T.m_range (qa_cons (qv 6) qa_nil) (blkOk_by (N := N_L_spoilt) (sc := defScope sL_spoilt) (own := [("_law_k", 7)]) (by decide +kernel)) (c := (.nm 7)) (tt := dYes) (fun _ _ _ _ _ => pg_name (i := 7) sc_L_spoilt.nd rfl (by first | exact Or.inl rfl | exact Or.inr rfl)) (fun _ _ _ _ _ => pts_nil) tt_yes (fun _ _ _ _ _ => (qe_tup (qa_cons (qe_op op_mod sr_mod (qv 7) qe_int) (qa_cons (qe_op op_fdiv sr_div (qv 7) qe_int) (qa_cons qe_int (qa_cons (qe_op op_mod sr_mod (qv 7) qe_int) qa_nil)))))) (by decide))) qa_nil)) qa_nil)))))) qss_nil)
    (qss_cons (qs_if (qt_cmp op_eq sr_eq (qv 5) qe_int) (qss_one (qs_ret (qe_tup (qa_cons qe_int (qa_cons (qe_callTy call_tuple_of sc_tuple rfl T.m_tuple (by decide +kernel) (qa_cons (qe_fz (qe_lcR1 (own := [("_law_k", 7)]) rfl sc_L_spoilt.nd rfl T.m_range (qa_cons (qe_op op_add sr_add qe_int (qe_fn h_L_taken hr (by decide) rfl (qa_cons (qv 0) (qa_cons qe_int qa_nil)))) qa_nil) (blkOk_by (N := N_L_spoilt) (sc := defScope sL_spoilt) (own := [("_law_k", 7)]) (by decide +kernel)) (c := (.nm 7)) (tt := dYes) (fun _ _ _ _ _ => pg_name (i := 7) sc_L_spoilt.nd rfl (by first | exact Or.inl rfl | exact Or.inr rfl)) (fun _ _ _ _ _ => pts_nil) tt_yes (fun _ _ _ _ _ => (qe_tup (qa_cons (qe_op op_mul sr_mul (qe_op op_mod sr_mod (qv 7) qe_int) qe_int) (qa_cons (qe_op op_fdiv sr_div (qv 7) qe_int) (qa_cons (qe_op op_add sr_add (qe_op op_mul sr_mul (qe_op op_mod sr_mod (qv 7) qe_int) qe_int) qe_int) (qa_cons (qe_op op_fdiv sr_div (qv 7) qe_int) qa_nil)))))) (by decide))) qa_nil)) qa_nil))))) qss_nil)
    (qss_cons (qs_if (qt_cmp (op_eqD hr.units) sr_eqD (qv 3) (qe_tup qa_nil)) (qss_one (qs_ret (qe_tup (qa_cons (qv 2) (qa_cons (qe_tup (qa_cons (qe_tup (qa_cons qe_int (qa_cons qe_int (qa_cons (qe_op op_add sr_add (qv 2) (qv 4)) (qa_cons qe_int qa_nil))))) qa_nil)) qa_nil))))) qss_nil)
    (qss_cons (qs_set (i := 8) sc_L_spoilt.nd rfl (by first | exact Or.inl rfl | exact Or.inr rfl) (qe_fn h_L_taken hr (by decide) rfl (qa_cons (qv 0) (qa_cons (qe_callB call_len_seq sc_len rfl T.m_len (by decide +kernel) (qa_cons (qv 3) qa_nil)) qa_nil))))
    (qss_cons (qs_set (i := 9) sc_L_spoilt.nd rfl (by first | exact Or.inl rfl | exact Or.inr rfl) (qe_callTy call_list_of sc_list rfl T.m_list (by decide +kernel) (qa_cons (qe_ix ix_tup sr_ixT (qv 3) (qv 8)) qa_nil)))
    (qss_cons (qs_set (i := 7) sc_L_spoilt.nd rfl (by first | exact Or.inl rfl | exact Or.inr rfl) (qe_fn h_L_taken hr (by decide) rfl (qa_cons (qv 0) (qa_cons qe_int qa_nil))))
    (qss_cons (qs_asg (qe_ix ix_list sr_ixL (qe_fz (qe_lst (qa_cons (qe_op op_sub sr_sub (qe_op op_sub sr_sub qe_int qe_int) (qv 4)) (qa_cons (qe_op op_add sr_add qe_int (qv 4)) (qa_cons (qe_ix ix_list sr_ixL (qv 9) (qe_op op_mod sr_mod (qe_op op_add sr_add (qv 7) qe_int) qe_int)) (qa_cons qe_int (qa_cons (qv 2) qa_nil))))))) (qe_fn h_L_taken hr (by decide) rfl (qa_cons (qv 0) (qa_cons qe_int qa_nil)))) (qg_sub (qv 9) (qv 7) set_list ss_setL))
    (qss_cons (qs_if (qt_cmp op_eq sr_eq (qv 5) qe_int) (qss_one (qs_ret (qe_tup (qa_cons (qv 2) (qa_cons (qe_op op_catA sr_catT (qv 3) (qe_slice sl_tupA ssl_T (qv 3) (qo_some (qv 8)) (qo_some (qe_op op_add sr_add (qv 8) qe_int)))) qa_nil))))) qss_nil)
    (qss_one (qs_ret (qe_tup (qa_cons (qv 2) (qa_cons (qe_op op_catA sr_catT (qe_op op_catA sr_catT (qe_slice sl_tupA ssl_T (qv 3) qo_none (qo_some (qv 8))) (qe_tup (qa_cons (qe_callTy call_tuple_of sc_tuple rfl T.m_tuple (by decide +kernel) (qa_cons (qv 9) qa_nil)) qa_nil))) (qe_slice sl_tupA ssl_T (qv 3) (qo_some (qe_op op_add sr_add (qv 8) qe_int)) qo_none)) qa_nil)))))))))))))))))
theorem sc_BadWeb_init : FnScope ["self", "number"] ["self", "number"] (defScope s_BadWeb___init__) := ⟨rfl, rfl, rfl, by decide +kernel, rfl, by decide +kernel, by decide +kernel⟩
theorem xc_BadWeb (T : Tx K mg) : XCls P w K mg base "BadWeb" (He.ga K "BadWeb") 1 "number" := by
  obtain ⟨fd, F⟩ := T.d_BadWeb_init
  refine ⟨⟨_, fd, _, T.oex, T.nno, T.iC, T.tI, ini_ok (k := 0) F sc_BadWeb_init (fun cdv A outer s H E hr => ?_), F.bindsN fun _ _ _ _ _ _ us hl => match us, hl with | [_, _], _ => rfl, T.g_BadWeb⟩⟩
  exact pss_cons (ps_expr (pe_binit rfl T.g_PortError T.ini.1 T.ini.2.1 T.ini.2.2 (pa_cons (pe_var (i := 0) rfl (Or.inl rfl)) (pa_cons (pe_var (i := 1) rfl (Or.inl rfl)) pa_nil)))) (pss_one (ps_ost (pe_var (i := 0) rfl (Or.inl rfl)) (pe_var (i := 1) rfl (Or.inl rfl))))
def N_need_web : List Str := ["web", "boxes", "links", "taken", "number", "one", "door", "other", "its_door", "ends", "good", "end"]
theorem sc_need_web : FnScope N_need_web ["web"] (defScope s_need_web) := ⟨rfl, rfl, rfl, by decide +kernel, rfl, by decide +kernel, by decide +kernel⟩
theorem fnx_need_web (T : Tx K mg) (h_is_door : Fn P w K mg base "is_door" ["boxes", "box", "door"] 1 (sp_is_door K)) (hc_BadWeb : XCls P w K mg base "BadWeb" (He.ga K "BadWeb") 1 "number") : FnX P w K mg base "need_web" ["web"] 3 (spx_need_web K) := by
  obtain ⟨fd, F⟩ := T.d_need_web
  refine ⟨_, fd, fn_okX F sc_need_web len_need_webX (fun cdv A outer s H E E' hr tk => ?_) r_need_webX, T.g_need_web, F.kp, F.bindsN fun _ _ _ _ _ _ us hl => match us, hl with | [_], _ => rfl⟩
  exact (qss_cons (qs_asg (qv 0) (qg_tup rfl (qgs_cons (qg_name (i := 1) sc_need_web.nd rfl (by first | exact Or.inl rfl | exact Or.inr rfl)) (qgs_cons (qg_name (i := 2) sc_need_web.nd rfl (by first | exact Or.inl rfl | exact Or.inr rfl)) qgs_nil))))
    (qss_cons (qs_if (qt_not (qt_chain op_le sr_le op_le sr_le qe_int (qv 1) (qe_gint rfl T.i_MOST_BOXES))) (qss_one (qs_raiseN hc_BadWeb rfl tk hr (by decide) rfl (qa_cons (qe_op op_sub sr_sub qe_int qe_int) qa_nil))) qss_nil)
    (qss_cons (qs_set (i := 3) sc_need_web.nd rfl (by first | exact Or.inl rfl | exact Or.inr rfl) (qe_lst qa_nil))
    (qss_one (qs_forR1 (passes_of rfl) rfl rfl T.m_range (qa_cons (qe_callB call_len_seq sc_len rfl T.m_len (by decide +kernel) (qa_cons (qv 2) qa_nil)) qa_nil) (qg_name (i := 4) sc_need_web.nd rfl (by first | exact Or.inl rfl | exact Or.inr rfl)) (qss_cons (qs_asg (qe_ix ix_tup sr_ixT (qv 2) (qv 4)) (qg_tup rfl (qgs_cons (qg_name (i := 5) sc_need_web.nd rfl (by first | exact Or.inl rfl | exact Or.inr rfl)) (qgs_cons (qg_name (i := 6) sc_need_web.nd rfl (by first | exact Or.inl rfl | exact Or.inr rfl)) (qgs_cons (qg_name (i := 7) sc_need_web.nd rfl (by first | exact Or.inl rfl | exact Or.inr rfl)) (qgs_cons (qg_name (i := 8) sc_need_web.nd rfl (by first | exact Or.inl rfl | exact Or.inr rfl)) qgs_nil))))))
    (qss_cons (qs_set (i := 9) sc_need_web.nd rfl (by first | exact Or.inl rfl | exact Or.inr rfl) (qe_lst (qa_cons (qe_tup (qa_cons (qv 5) (qa_cons (qv 6) qa_nil))) (qa_cons (qe_tup (qa_cons (qv 7) (qa_cons (qv 8) qa_nil))) qa_nil))))
    (qss_cons (qs_set (i := 10) sc_need_web.nd rfl (by first | exact Or.inl rfl | exact Or.inr rfl) (qe_and (qe_cmp op_lt sr_lt (qv 4) (qe_gint rfl T.i_MOST_LINKS)) (qe_and (qe_cmp op_ne sr_ne (qv 5) (qv 7)) (qe_and (qe_fn h_is_door hr (by decide) rfl (qa_cons (qv 1) (qa_cons (qv 5) (qa_cons (qv 6) qa_nil)))) (qe_one (qe_fn h_is_door hr (by decide) rfl (qa_cons (qv 1) (qa_cons (qv 7) (qa_cons (qv 8) qa_nil)))))))))
    (qss_cons (qs_if (qt_w (qw_or (qt_not (qt_val (qv 10))) (qw_or1 (qt_cmp (op_neD hr.units) sr_neD (qe_fz (qe_lcL (own := [("end", 11)]) rfl sc_need_web.nd (qv 9) (blkOk_by (N := N_need_web) (sc := defScope s_need_web) (own := [("end", 11)]) (by decide +kernel)) (c := (.nm 11)) (tt := (dTest (dOp (eInD false) (dVar 11) (dVar 3)))) (fun _ _ _ _ _ => pg_name (i := 11) sc_need_web.nd rfl (by first | exact Or.inl rfl | exact Or.inr rfl)) (fun _ _ _ _ _ => pts_one (qt_cmp (op_inD (hu65 hr)) sr_inD (qv 11) (qv 3))) tt_id (fun _ _ _ _ _ => (qv 11)) (by decide))) (qe_fz (qe_lst qa_nil)))))) (qss_one (qs_raiseN hc_BadWeb rfl tk hr (by decide) rfl (qa_cons (qv 4) qa_nil))) qss_nil)
    (qss_one (qs_expr (qe_bm PySem.F.plainAttrs_list PySem.F.slot_list_extend PySem.F.type_list_extend mt_extend sm_extend (qv 3) (qa_cons (qv 9) qa_nil)))))))))))))
def N_ring : List Str := ["web"]
theorem sc_ring : FnScope N_ring ["web"] (defScope s_ring) := ⟨rfl, rfl, rfl, by decide +kernel, rfl, by decide +kernel, by decide +kernel⟩
theorem fnx_ring (T : Tx K mg) (hx_need_web : FnX P w K mg base "need_web" ["web"] 3 (spx_need_web K)) : FnX P w K mg base "ring" ["web"] 4 (spx_ring K) := by
  obtain ⟨fd, F⟩ := T.d_ring
  refine ⟨_, fd, fn_okX F sc_ring len_bad (fun cdv A outer s H E E' hr tk => ?_) r_ringX, T.g_ring, F.kp, F.bindsN fun _ _ _ _ _ _ us hl => match us, hl with | [_], _ => rfl⟩
  exact (qss_cons (qs_expr (qe_fnX hx_need_web hr (by decide) rfl tk (qa_cons (qv 0) qa_nil))) qss_no)
def N_enough : List Str := ["web"]
theorem sc_enough : FnScope N_enough ["web"] (defScope s_enough) := ⟨rfl, rfl, rfl, by decide +kernel, rfl, by decide +kernel, by decide +kernel⟩
theorem fnx_enough (T : Tx K mg) (hx_need_web : FnX P w K mg base "need_web" ["web"] 3 (spx_need_web K)) : FnX P w K mg base "enough" ["web"] 4 (spx_enough K) := by
  obtain ⟨fd, F⟩ := T.d_enough
  refine ⟨_, fd, fn_okX F sc_enough len_bad (fun cdv A outer s H E E' hr tk => ?_) r_ringX, T.g_enough, F.kp, F.bindsN fun _ _ _ _ _ _ us hl => match us, hl with | [_], _ => rfl⟩
  exact (qss_cons (qs_expr (qe_fnX hx_need_web hr (by decide) rfl tk (qa_cons (qv 0) qa_nil))) qss_no)
def N_without : List Str := ["web", "number"]
theorem sc_without : FnScope N_without ["web"] (defScope s_without) := ⟨rfl, rfl, rfl, by decide +kernel, rfl, by decide +kernel, by decide +kernel⟩
theorem fnx_without (T : Tx K mg) (hx_enough : FnX P w K mg base "enough" ["web"] 4 (spx_enough K)) : FnX P w K mg base "without" ["web"] 5 (spx_without K) := by
  obtain ⟨fd, F⟩ := T.d_without
  refine ⟨_, fd, fn_okX F sc_without len_bad (fun cdv A outer s H E E' hr tk => ?_) r_withoutX, T.g_without, F.kp, F.bindsN fun _ _ _ _ _ _ us hl => match us, hl with | [_], _ => rfl⟩
  exact (qss_one (qs_ret (qe_tup (qa_cons (qe_ix ix_tup sr_ixT (qv 0) qe_int) (qa_cons (qe_callTy call_tuple_of sc_tuple rfl T.m_tuple (by decide +kernel) (qa_cons (qe_fz (qe_lcL (own := [("number", 1)]) rfl sc_without.nd (qe_fnX hx_enough hr (by decide) rfl tk (qa_cons (qv 0) qa_nil)) (blkOk_by (N := N_without) (sc := defScope s_without) (own := [("number", 1)]) (by decide +kernel)) (c := (.nm 1)) (tt := dYes) (fun _ _ _ _ _ => pg_name (i := 1) sc_without.nd rfl (by first | exact Or.inl rfl | exact Or.inr rfl)) (fun _ _ _ _ _ => pts_nil) tt_yes (fun _ _ _ _ _ => (qe_ix ix_tup sr_ixT (qe_ix ix_tup sr_ixT (qv 0) qe_int) (qv 1))) (by decide))) qa_nil)) qa_nil)))))
def N_N_init : List Str := ["self", "web", "age", "room", "places", "one", "door", "other", "its_door", "number", "box"]
theorem sc_N_init : FnScope N_N_init ["self", "web", "age", "room", "places"] (defScope s_Net___init__) := ⟨rfl, rfl, rfl, by decide +kernel, rfl, by decide +kernel, by decide +kernel⟩
theorem mkx_Net (T : Tx K mg) (hx_need_web : FnX P w K mg base "need_web" ["web"] 3 (spx_need_web K)) : MkrX P w K mg base "Net" (He.ga K "Net") ["self", "web", "age", "room", "places"] 4 (spx_N_init K) := by
  obtain ⟨fd, F⟩ := T.d_Net_init
  refine ⟨⟨_, fd, fn_okX F sc_N_init len_N_initX (fun cdv A outer s H E E' hr tk => ?_) (r_N_initX (m := 6)), T.mkN, T.g_Net, F.bindsN fun _ _ _ _ _ _ us hl => match us, hl with | [_, _, _, _, _], _ => rfl⟩⟩
  exact (qss_cons (qs_expr (qe_fnX hx_need_web hr (by decide) rfl tk (qa_cons (qv 1) qa_nil))) qss_no)
theorem nsc_0 : NdefX.NScope [("_law_web_here" : Str)] [] [("_law_web_here" : Str)] (lamScope (lm 0)) := NdefX.nscope_by (by decide +kernel)
theorem lms_0 : LamX.LamS (defScope sL_works) (lamScope (lm 0)) := LamX.lamS_by (by decide +kernel)
theorem nsc_1 : NdefX.NScope [("_law_web_here" : Str)] [] [("_law_web_here" : Str)] (lamScope (lm 1)) := NdefX.nscope_by (by decide +kernel)
theorem lms_1 : LamX.LamS (defScope sL_works) (lamScope (lm 1)) := LamX.lamS_by (by decide +kernel)
theorem nsc_2 : NdefX.NScope [("_law_web_here" : Str)] [] [("_law_web_here" : Str)] (lamScope (lm 2)) := NdefX.nscope_by (by decide +kernel)
theorem lms_2 : LamX.LamS (defScope sL_works) (lamScope (lm 2)) := LamX.lamS_by (by decide +kernel)
theorem nsc_3 : NdefX.NScope [("_law_web_here" : Str)] [] [("_law_web_here" : Str)] (lamScope (lm 3)) := NdefX.nscope_by (by decide +kernel)
theorem lms_3 : LamX.LamS (defScope sL_works) (lamScope (lm 3)) := LamX.lamS_by (by decide +kernel)
theorem nsc_4 : NdefX.NScope [("_law_web_here" : Str)] [] [("_law_web_here" : Str)] (lamScope (lm 4)) := NdefX.nscope_by (by decide +kernel)
theorem lms_4 : LamX.LamS (defScope sL_works) (lamScope (lm 4)) := LamX.lamS_by (by decide +kernel)
theorem lam_all (T : Tx K mg) (hx_need_web : FnX P w K mg base "need_web" ["web"] 3 (spx_need_web K)) (hx_ring : FnX P w K mg base "ring" ["web"] 4 (spx_ring K)) (hx_enough : FnX P w K mg base "enough" ["web"] 4 (spx_enough K)) (hx_without : FnX P w K mg base "without" ["web"] 5 (spx_without K)) (hm_Net : MkrX P w K mg base "Net" (He.ga K "Net") ["self", "web", "age", "room", "places"] 4 (spx_N_init K)) : ∀ L, LamOk P w K mg base 6 L (LS K L) := by
  intro L
  refine LamOk.of fun ds G o hls => ?_
  obtain ⟨i, cl, n, ls, k, hi, rfl, hcl, _⟩ := hls
  have key : ∀ (i : Nat), i < 5 → ∀ ds G o Q E', LS K (lmR i cl) ds G o → OutK G o Q E' → b_lam K i (vX E') (ds.map some) G (vR Q) := by
    rintro i hi _ G _ Q E' ⟨_, _, n, ls, k, _, _, _, rfl, hl, hb, rfl⟩ ho
    exact r_lam hi hl hb ho
  obtain rfl | rfl | rfl | rfl | rfl : i = 0 ∨ i = 1 ∨ i = 2 ∨ i = 3 ∨ i = 4 := by omega
  · exact lam_ok (N := [("_law_web_here" : Str)]) (t := b_lam K 0) nsc_0 hcl (fun pm c ctv => rfl) (fun A outer s H f c E E' hr tk => qe_fnX hx_need_web hr (by decide) rfl tk (qa_cons (qv 0) qa_nil)) (key 0 (by decide)) fun ds G o F H0 h => h
  · exact lam_ok (N := [("_law_web_here" : Str)]) (t := b_lam K 1) nsc_1 hcl (fun pm c ctv => rfl) (fun A outer s H f c E E' hr tk => qe_fnX hx_ring hr (by decide) rfl tk (qa_cons (qv 0) qa_nil)) (key 1 (by decide)) fun ds G o F H0 h => h
  · exact lam_ok (N := [("_law_web_here" : Str)]) (t := b_lam K 2) nsc_2 hcl (fun pm c ctv => rfl) (fun A outer s H f c E E' hr tk => qe_fnX hx_enough hr (by decide) rfl tk (qa_cons (qv 0) qa_nil)) (key 2 (by decide)) fun ds G o F H0 h => h
  · exact lam_ok (N := [("_law_web_here" : Str)]) (t := b_lam K 3) nsc_3 hcl (fun pm c ctv => rfl) (fun A outer s H f c E E' hr tk => qe_fnX hx_without hr (by decide) rfl tk (qa_cons (qv 0) qa_nil)) (key 3 (by decide)) fun ds G o F H0 h => h
  · exact lam_ok (N := [("_law_web_here" : Str)]) (t := b_lam K 4) nsc_4 hcl (fun pm c ctv => rfl) (fun A outer s H f c E E' hr tk => qe_makeX hm_Net hr (by decide) rfl tk (qa_cons (qv 0) (qa_cons qe_int (qa_cons qe_int (qa_cons (qe_fz (qe_lst qa_nil)) qa_nil))))) (key 4 (by decide)) fun ds G o F H0 h => h
def N_L_word : List Str := ["_law_work", "_law_other", "_law_good", "e"]
theorem sc_L_word : FnScope N_L_word ["_law_work"] (defScope sL_word) := ⟨rfl, rfl, rfl, by decide +kernel, rfl, by decide +kernel, by decide +kernel⟩
theorem xfacts (T : Tx K mg) : XFacts K := ⟨T.exc, T.k0, T.k1, T.k2⟩
theorem fn_L_word (T : Tx K mg) (hL : ∀ L, LamOk P w K mg base 6 L (LS K L)) : Fn P w K mg base "_law_word" ["_law_work"] 7 (sp_L_word K) := by
  obtain ⟨fd, F⟩ := T.d_L_word
  refine ⟨_, fd, fn_ok F sc_L_word len_L_word (fun cdv A outer s H E hr => ?_) (r_L_word (xfacts T)), T.g_L_word, F.kp, F.bindsN fun _ _ _ _ _ _ us hl => match us, hl with | [_], _ => rfl⟩
  exact qss_cons (qs_try rfl rfl sc_L_word.nd rfl rfl ⟨rfl, by decide, .inl T.g_PortError⟩ rfl (fun C h => by subst h; exact T.exm) (fun pn xe E' tk => qss_one (qs_expr (qe_act hL hr (by decide) tk rfl (Or.inl rfl))))
    (fun a oe C d pn hz hf => qss_cons (qs_set (i := 1) sc_L_word.nd rfl (Or.inl rfl) (qe_isXT hz hf rfl T.m_isinstance (qv 3) (pa_glob1 rfl T.g_BadHost (pa_glob1 rfl T.g_BadNet (pa_glob1 rfl T.g_BadPlace (pa_glob1 rfl T.g_BadTime (pa_glob1 rfl T.g_HasRing pa_glob0))))) (Nat.le_of_ble_eq_true rfl)))
      (qss_cons (qs_set (i := 2) sc_L_word.nd rfl (Or.inl rfl) (qe_and (qe_isX hz hf rfl T.m_isinstance (qv 3) rfl T.g_BadWeb) (qe_and (qe_isXB hz hf rfl T.m_isinstance (qv 3) rfl T.m_ValueError (by decide +kernel)) (qe_one (qe_not (qv 1))))))
      (qss_one (qs_ret (qe_ifExp (qt_val (qv 2)) (qe_tup (qa_cons qe_str (qa_cons (qe_xf T.xf T.nno hz hf (qv 3)) qa_nil))) (qe_tup (qa_cons qe_str (qa_cons qe_int qa_nil)))))))))
    (qss_one (qs_ret qe_non))
def N_L_works : List Str := ["_law_web_here", "_law_works_here"]
theorem sc_L_works : FnScope N_L_works ["_law_web_here"] (defScope sL_works) := ⟨rfl, rfl, rfl, by decide +kernel, rfl, by decide +kernel, by decide +kernel⟩
theorem fn_L_works (T : Tx K mg) (TB : LamX.TabB base mg (He.cT K ("_law_works", none)).1 (He.cT K ("_law_works", none)).2) : Fn P w K mg base "_law_works" ["_law_web_here"] 1 (sp_L_works K) := by
  obtain ⟨fd, F⟩ := T.d_L_works
  refine ⟨_, fd, fn_okZ (k := 0) F sc_L_works len_L_works (fun cdv A outer s H E hr hcd hlk => ?_) (r_L_works (by decide +kernel)), T.g_L_works, F.kp, F.bindsN fun _ _ _ _ _ _ us hl => match us, hl with | [_], _ => rfl⟩
  obtain ⟨oc, od, osl, fdx, lk, hcode⟩ := hlk
  obtain ⟨c, rfl⟩ := He.codeIn_ref hcd
  have ec : He.codeOf K ("_law_works", none) = c := He.codeOf_eq lk hcode
  have TB2 : LamX.TabB base mg c (tW K) := by
    rw [← ec]
    exact TB
  exact qz_cons (qs_set (i := 1) sc_L_works.nd rfl (by first | exact Or.inl rfl | exact Or.inr rfl) (qe_lst (qa_cons (qe_lam TB2 rfl lms_0 (by decide +kernel)) qa_nil)))
    (qz_cons (qs_expr (qe_bm PySem.F.plainAttrs_list PySem.F.slot_list_append PySem.F.type_list_append mt_append sm_append (qv 1) (qa_cons (qe_lam TB2 rfl lms_1 (by decide +kernel)) qa_nil)))
    (qz_cons (qs_expr (qe_bm PySem.F.plainAttrs_list PySem.F.slot_list_append PySem.F.type_list_append mt_append sm_append (qv 1) (qa_cons (qe_lam TB2 rfl lms_2 (by decide +kernel)) qa_nil)))
    (qz_cons (qs_expr (qe_bm PySem.F.plainAttrs_list PySem.F.slot_list_append PySem.F.type_list_append mt_append sm_append (qv 1) (qa_cons (qe_lam TB2 rfl lms_3 (by decide +kernel)) qa_nil)))
    (qz_cons (qs_expr (qe_bm PySem.F.plainAttrs_list PySem.F.slot_list_append PySem.F.type_list_append mt_append sm_append (qv 1) (qa_cons (qe_lam TB2 rfl lms_4 (by decide +kernel)) qa_nil)))
    (qz_ret (qv 1))))))
def N_law : List Str := ["_law_script", "_law_row", "_law_turn", "_law_good", "_law_web_here", "_law_due", "_law_work"]
theorem sc_law : FnScope N_law ["_law_script"] (defScope s_law) := ⟨rfl, rfl, rfl, by decide +kernel, rfl, by decide +kernel, by decide +kernel⟩
theorem ok_law {fd : FuncData} (T : Tx K mg) (F : FunD K "law" "law" (defArgs s_law) (defBody s_law) (defScope s_law) [] [] (He.fAd K ("law", none)) fd) (h_L_web : Fn P w K mg base "_law_web" ["_law_row", "_law_rings"] 3 (sp_L_web K)) (h_need_web : Fn P w K mg base "need_web" ["web"] 3 (sp_need_web1 K)) (h_L_spoilt : Fn P w K mg base "_law_spoilt" ["_law_row", "_law_web_here"] 2 (sp_L_spoilt K)) (h_L_taken : Fn P w K mg base "_law_taken" ["_law_row", "_law_many"] 1 (sp_L_taken K)) (h_L_bad : Fn P w K mg base "_law_bad" ["_law_web_here"] 1 (sp_L_bad K)) (h_L_works : Fn P w K mg base "_law_works" ["_law_web_here"] 1 (sp_L_works K)) (h_L_word : Fn P w K mg base "_law_word" ["_law_work"] 7 (sp_L_word K)) : FnOk P w K mg base CX0 8 (He.fAd K ("law", none)) fd ["_law_script"] (lSp (sp_lawT K)) := by
  refine fn_ok F sc_law len_lawT (fun cdv A outer s H E hr => ?_) r_lawT
  exact (qss_cons (qs_set (i := 1) sc_law.nd rfl (by first | exact Or.inl rfl | exact Or.inr rfl) (qe_fz (qe_lst (qa_cons (qv 0) (qa_cons qe_int (qa_cons qe_int (qa_cons qe_int qa_nil)))))))
    (qss_cons (qs_forR1 PassesOwn.never rfl rfl T.m_range (qa_cons qe_int qa_nil) (qg_name (i := 2) sc_law.nd rfl (by first | exact Or.inl rfl | exact Or.inr rfl)) (qss_cons (qs_set (i := 3) sc_law.nd rfl (by first | exact Or.inl rfl | exact Or.inr rfl) (qe_fn h_L_web hr (by decide) rfl (qa_cons (qv 1) (qa_cons qe_int qa_nil))))
    (qss_cons (qs_if (qt_notN (qe_fn h_need_web hr (by decide) rfl (qa_cons (qv 3) qa_nil))) (qss_one (qs_ret qe_bl)) qss_nil)
    (qss_cons (qs_set (i := 4) sc_law.nd rfl (by first | exact Or.inl rfl | exact Or.inr rfl) (qe_fn h_L_spoilt hr (by decide) rfl (qa_cons (qv 1) (qa_cons (qv 3) qa_nil))))
    (qss_cons (qs_if (qt_cmp op_eq sr_eq (qe_fn h_L_taken hr (by decide) rfl (qa_cons (qv 1) (qa_cons qe_int qa_nil))) qe_int) (qss_one (qs_set (i := 4) sc_law.nd rfl (by first | exact Or.inl rfl | exact Or.inr rfl) (qe_fn h_L_spoilt hr (by decide) rfl (qa_cons (qv 1) (qa_cons (qv 4) qa_nil))))) qss_nil)
    (qss_cons (qs_set (i := 5) sc_law.nd rfl (by first | exact Or.inl rfl | exact Or.inr rfl) (qe_fn h_L_bad hr (by decide) rfl (qa_cons (qv 4) qa_nil)))
    (qss_one (qs_if (qt_isN (qv 5)) (qss_one (qs_if (qt_notN (qe_fn h_need_web hr (by decide) rfl (qa_cons (qv 4) qa_nil))) (qss_one (qs_ret qe_bl)) qss_nil)) (qss_one (qs_if (qt_cmp (op_neD hr.units) sr_neD (qe_fz (qe_lcL (own := [("_law_work", 6)]) rfl sc_law.nd (qe_fn h_L_works hr (by decide) rfl (qa_cons (qv 4) qa_nil)) (blkOk_by (N := N_law) (sc := defScope s_law) (own := [("_law_work", 6)]) (by decide +kernel)) (c := (.nm 6)) (tt := (dTest (dOp eNeD (dCall (sp_L_word K) (dCons (dVar 6) dNil)) (dTup (dCons (dC (.str "web")) (dCons (dVar 5) dNil)))))) (fun _ _ _ _ _ => pg_name (i := 6) sc_law.nd rfl (by first | exact Or.inl rfl | exact Or.inr rfl)) (fun _ _ _ _ _ => pts_one (qt_cmp (op_neD hr.units) sr_neD (qe_fn h_L_word hr (by decide) rfl (qa_cons (qv 6) qa_nil)) (qe_tup (qa_cons qe_str (qa_cons (qv 5) qa_nil))))) tt_id (fun _ _ _ _ _ => (qv 6)) (by decide))) (qe_fz (qe_lst qa_nil))) (qss_one (qs_ret qe_bl)) qss_nil))))))))))
    (qss_one (qs_ret qe_bl))))
theorem all_law {fd : FuncData} (T : Tx K mg) (TB : LamX.TabB base mg (He.cT K ("_law_works", none)).1 (He.cT K ("_law_works", none)).2) (F : FunD K "law" "law" (defArgs s_law) (defBody s_law) (defScope s_law) [] [] (He.fAd K ("law", none)) fd) : FnOk P w K mg base CX0 8 (He.fAd K ("law", none)) fd ["_law_script"] (lSp (sp_lawT K)) := by
  have h_is_door := fn_is_door (P := P) (w := w) (base := base) T 
  have h_L_taken := fn_L_taken (P := P) (w := w) (base := base) T 
  have h_L_free := fn_L_free (P := P) (w := w) (base := base) T 
  have h_L_link := fn_L_link (P := P) (w := w) (base := base) T h_L_free h_L_taken
  have h_L_web := fn_L_web (P := P) (w := w) (base := base) T h_L_taken h_L_link
  have h_L_bad := fn_L_bad (P := P) (w := w) (base := base) T 
  have h_L_spoilt := fn_L_spoilt (P := P) (w := w) (base := base) T h_L_taken
  have hc := xc_BadWeb (P := P) (w := w) (base := base) T
  have hx_need_web := fnx_need_web (P := P) (w := w) (base := base) T h_is_door hc
  have hx_ring := fnx_ring (P := P) (w := w) (base := base) T hx_need_web
  have hx_enough := fnx_enough (P := P) (w := w) (base := base) T hx_need_web
  have hx_without := fnx_without (P := P) (w := w) (base := base) T hx_enough
  have hm := mkx_Net (P := P) (w := w) (base := base) T hx_need_web
  have hL := lam_all (P := P) (w := w) (base := base) T hx_need_web hx_ring hx_enough hx_without hm
  have h_L_word := fn_L_word (P := P) (w := w) (base := base) T hL
  have h_L_works := fn_L_works (P := P) (w := w) (base := base) T TB
  have h_need_web : Fn P w K mg base "need_web" ["web"] 3 (sp_need_web1 K) := hx_need_web.fn fun ds G Q z => by
    obtain ⟨n, ls, h1, h2, h3, h4⟩ := z
    exact ⟨n, ls, h1, h2, fun _ => h4, fun k hk => by rw [h3] at hk; cases hk⟩
  exact ok_law T F h_L_web h_need_web h_L_spoilt h_L_taken h_L_bad h_L_works h_L_word
end
end Dg
open PySem PySem.W PySem.Calls PyProof.Rows
theorem PySem.Challenge.cw_learnports_k01_webs_refused_holds : PySem.Challenge.rw_learnports_k01_webs_refused.Holds := by
  w_on; o_law
  refine HandSHeadRun.head_any (r := OpenLaw.row PySem.Challenge.rw_learnports_k01_webs_refused) (q := view (OpenLaw.row PySem.Challenge.rw_learnports_k01_webs_refused).prog [37]) (H := Hd.hk) (ob := Hd.ob) (M := 4000) (loose := Hd.names) (d := HandSHeadRun.topDef (OpenLaw.row PySem.Challenge.rw_learnports_k01_webs_refused).prog 37) (kwd := []) Hd.ob_eq
    (by kernel_rfl) (fun s => by kernel_rfl) Hd.run (by kernel_rfl) (by kernel_rfl) (by kernel_rfl) (by rfl) (by first | assumption | decide +kernel) (by decide +kernel) ⟨rfl, rfl, rfl, rfl, rfl, by decide +kernel⟩ ?hw ?hc
  case hw => w_witness2
  case hc =>
    refine LamX.walk_ofTsE (l := PySem.Challenge.rw_learnports_k01_webs_refused) (n := 63) (k := 8) (x := "_law_script") (CX := fun _ => L2.CX0) rfl (by decide) (by kernel_rfl) ⟨rfl, by decide, by decide⟩ ?F (fun _ _ _ _ _ z => z)
    intro w mg fa h Y G hmg0
    obtain ⟨K, KX, c⟩ := Y
    have hmg : mg ("law" : PySem.Str) = some (.ref fa) := by
      have e : (HandSHeadRun.topDef (OpenLaw.row PySem.Challenge.rw_learnports_k01_webs_refused).prog 37).name = ("law" : PySem.Str) := by kernel_rfl
      rw [← e]
      exact hmg0
    have T := Dg.tx KX G c.facts c.bool
    obtain ⟨fd, F⟩ := T.d_law
    have e := hmg.symm.trans T.g_law
    cases e
    have b := L2.FunD.bindsA (ps := ["_law_script"]) F fun _ _ _ _ _ _ us hl => match us, hl with | [_], _ => rfl
    have hp : ∀ p ∈ [He.cT K ("_law_works", none)], ∃ q, q ∈ Hd.tf ∧ p = He.cT K q := fun p hp => ⟨("_law_works", none), List.mem_cons_self, List.mem_singleton.mp hp⟩
    refine ⟨K, KX, fd, [He.cT K ("_law_works", none)], Dg.lSp (Dg.sp_lawT K), fun p z => ?_, fun p z => ?_, fun p z => ?_, fun s v => b s [v] rfl, fun H a ns hl ho ht hS => Dg.lawT_start (ht _ List.mem_cons_self) hS (c.none _ List.mem_cons_self) _, fun base _ _ TB => Dg.all_law T (TB _ List.mem_cons_self) F⟩
    · obtain ⟨q, hq, rfl⟩ := hp p z
      exact c.void q hq
    · obtain ⟨q, hq, rfl⟩ := hp p z
      exact c.none q hq
    · obtain ⟨q, hq, rfl⟩ := hp p z
      exact PySem.W.codeHd_of_K KX (c.code q hq)

