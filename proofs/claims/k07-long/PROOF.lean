import PyProof.Rows.All
import Wide.All
import OpenK.AllK
import Wide.FinOn
import KE.KStateDown
import Lean
import HandS.ForMost
import HandS.More
import HandS.WordsExc
import HandS.Defaults
import HandS.Head0
import HandS.Head1
import HandS.Head2
import HandS.HeadEnd
import HandS.HeadHook1
import HandS.HeadHook2
import HandS.Deep
import HandS.Conv
import HandS.IsInst
import HandS.TupAny
import HandS.TupSets
import HandS.Strs
import HandS.Sort
import KE.DataMinMax
import KE.SortData
import HandS.DictSubView
import HandS.SetFor
import KE.KDictWalk
import HandS.Style
import HandS.SortInts
import PySem.Challenge.RW_learnports_k07_whole_never_long_at_the_w
set_option Elab.async false
set_option linter.all false
set_option maxRecDepth 100000
set_option maxHeartbeats 4000000
namespace Hd
open PySem PySem.Spec PyProof.Rows L2
def top (i : Nat) : Stmt := PySem.Challenge.pw_learnports_k07_whole_never_long_at_the_w.main.body.getD i (.Pass ⟨0, 0, 0, 0⟩)
def clsAt (s : Stmt) (i : Nat) : Stmt := match s with
  | .ClassDef _ _ _ b _ _ _ _ _ _ _ => b.getD i (.Pass ⟨0, 0, 0, 0⟩)
  | _ => .Pass ⟨0, 0, 0, 0⟩
abbrev s_is_door : Stmt := top 11
def ds_is_door : He.DefD := ⟨("is_door", none), "is_door", "is_door", defArgs s_is_door, defBody s_is_door, defScope s_is_door, [], []⟩
abbrev s_need_web : Stmt := top 12
def ds_need_web : He.DefD := ⟨("need_web", none), "need_web", "need_web", defArgs s_need_web, defBody s_need_web, defScope s_need_web, [], []⟩
abbrev s_boxes_from : Stmt := top 14
def ds_boxes_from : He.DefD := ⟨("boxes_from", none), "boxes_from", "boxes_from", defArgs s_boxes_from, defBody s_boxes_from, defScope s_boxes_from, [], []⟩
abbrev s_leads : Stmt := top 15
def ds_leads : He.DefD := ⟨("leads", none), "leads", "leads", defArgs s_leads, defBody s_leads, defScope s_leads, [], []⟩
abbrev s_wrong : Stmt := top 16
def ds_wrong : He.DefD := ⟨("wrong", none), "wrong", "wrong", defArgs s_wrong, defBody s_wrong, defScope s_wrong, [], []⟩
abbrev s_until : Stmt := top 17
def ds_until : He.DefD := ⟨("until", none), "until", "until", defArgs s_until, defBody s_until, defScope s_until, [], []⟩
abbrev sL_taken : Stmt := top 26
def dsL_taken : He.DefD := ⟨("_law_taken", none), "_law_taken", "_law_taken", defArgs sL_taken, defBody sL_taken, defScope sL_taken, [], []⟩
abbrev sL_free : Stmt := top 27
def dsL_free : He.DefD := ⟨("_law_free", none), "_law_free", "_law_free", defArgs sL_free, defBody sL_free, defScope sL_free, [], []⟩
abbrev sL_link : Stmt := top 28
def dsL_link : He.DefD := ⟨("_law_link", none), "_law_link", "_law_link", defArgs sL_link, defBody sL_link, defScope sL_link, [], []⟩
abbrev sL_web : Stmt := top 29
def dsL_web : He.DefD := ⟨("_law_web", none), "_law_web", "_law_web", defArgs sL_web, defBody sL_web, defScope sL_web, [], []⟩
abbrev sL_ends : Stmt := top 30
def dsL_ends : He.DefD := ⟨("_law_ends", none), "_law_ends", "_law_ends", defArgs sL_ends, defBody sL_ends, defScope sL_ends, [], []⟩
abbrev sL_places : Stmt := top 31
def dsL_places : He.DefD := ⟨("_law_places", none), "_law_places", "_law_places", defArgs sL_places, defBody sL_places, defScope sL_places, [], []⟩
abbrev sL_fresh : Stmt := top 32
def dsL_fresh : He.DefD := ⟨("_law_fresh", none), "_law_fresh", "_law_fresh", defArgs sL_fresh, defBody sL_fresh, defScope sL_fresh, [], []⟩
abbrev sL_net : Stmt := top 33
def dsL_net : He.DefD := ⟨("_law_net", none), "_law_net", "_law_net", defArgs sL_net, defBody sL_net, defScope sL_net, [], []⟩
abbrev sL_door : Stmt := top 34
def dsL_door : He.DefD := ⟨("_law_door", none), "_law_door", "_law_door", defArgs sL_door, defBody sL_door, defScope sL_door, [], []⟩
abbrev sL_learn : Stmt := top 35
def dsL_learn : He.DefD := ⟨("_law_learn", none), "_law_learn", "_law_learn", defArgs sL_learn, defBody sL_learn, defScope sL_learn, [], []⟩
abbrev sL_send : Stmt := top 36
def dsL_send : He.DefD := ⟨("_law_send", none), "_law_send", "_law_send", defArgs sL_send, defBody sL_send, defScope sL_send, [], []⟩
abbrev sL_deed : Stmt := top 37
def dsL_deed : He.DefD := ⟨("_law_deed", none), "_law_deed", "_law_deed", defArgs sL_deed, defBody sL_deed, defScope sL_deed, [], []⟩
abbrev sL_due : Stmt := top 38
def dsL_due : He.DefD := ⟨("_law_due", none), "_law_due", "_law_due", defArgs sL_due, defBody sL_due, defScope sL_due, [], []⟩
abbrev sL_does : Stmt := top 39
def dsL_does : He.DefD := ⟨("_law_does", none), "_law_does", "_law_does", defArgs sL_does, defBody sL_does, defScope sL_does, [], []⟩
abbrev sL_joined : Stmt := top 40
def dsL_joined : He.DefD := ⟨("_law_joined", none), "_law_joined", "_law_joined", defArgs sL_joined, defBody sL_joined, defScope sL_joined, [], []⟩
abbrev sL_leads : Stmt := top 41
def dsL_leads : He.DefD := ⟨("_law_leads", none), "_law_leads", "_law_leads", defArgs sL_leads, defBody sL_leads, defScope sL_leads, [], []⟩
abbrev sL_wrong : Stmt := top 42
def dsL_wrong : He.DefD := ⟨("_law_wrong", none), "_law_wrong", "_law_wrong", defArgs sL_wrong, defBody sL_wrong, defScope sL_wrong, [], []⟩
abbrev sL_moved_since : Stmt := top 43
def dsL_moved_since : He.DefD := ⟨("_law_moved_since", none), "_law_moved_since", "_law_moved_since", defArgs sL_moved_since, defBody sL_moved_since, defScope sL_moved_since, [], []⟩
abbrev sL_all_know : Stmt := top 44
def dsL_all_know : He.DefD := ⟨("_law_all_know", none), "_law_all_know", "_law_all_know", defArgs sL_all_know, defBody sL_all_know, defScope sL_all_know, [], []⟩
abbrev s_law : Stmt := top 45
def ds_law : He.DefD := ⟨("law", none), "law", "law", defArgs s_law, defBody s_law, defScope s_law, [], []⟩
abbrev s_BadWeb___init__ : Stmt := clsAt (top 2) 0
def ds_BadWeb___init__ : He.DefD := ⟨("BadWeb", some "__init__"), "__init__", "BadWeb.__init__", defArgs s_BadWeb___init__, defBody s_BadWeb___init__, defScope s_BadWeb___init__, [], []⟩
abbrev s_BadPlace___init__ : Stmt := clsAt (top 4) 0
def ds_BadPlace___init__ : He.DefD := ⟨("BadPlace", some "__init__"), "__init__", "BadPlace.__init__", defArgs s_BadPlace___init__, defBody s_BadPlace___init__, defScope s_BadPlace___init__, [], []⟩
abbrev s_Net___init__ : Stmt := clsAt (top 24) 0
def ds_Net___init__ : He.DefD := ⟨("Net", some "__init__"), "__init__", "Net.__init__", defArgs s_Net___init__, defBody s_Net___init__, defScope s_Net___init__, [], []⟩
abbrev s_Net_need_place : Stmt := clsAt (top 24) 1
def ds_Net_need_place : He.DefD := ⟨("Net", some "need_place"), "need_place", "Net.need_place", defArgs s_Net_need_place, defBody s_Net_need_place, defScope s_Net_need_place, [], []⟩
abbrev s_Net_need_time : Stmt := clsAt (top 24) 2
def ds_Net_need_time : He.DefD := ⟨("Net", some "need_time"), "need_time", "Net.need_time", defArgs s_Net_need_time, defBody s_Net_need_time, defScope s_Net_need_time, [], []⟩
abbrev s_Net_need_host : Stmt := clsAt (top 24) 3
def ds_Net_need_host : He.DefD := ⟨("Net", some "need_host"), "need_host", "Net.need_host", defArgs s_Net_need_host, defBody s_Net_need_host, defScope s_Net_need_host, [], []⟩
abbrev s_Net_need_letter : Stmt := clsAt (top 24) 4
def ds_Net_need_letter : He.DefD := ⟨("Net", some "need_letter"), "need_letter", "Net.need_letter", defArgs s_Net_need_letter, defBody s_Net_need_letter, defScope s_Net_need_letter, [], []⟩
abbrev s_Net_hosts_at : Stmt := clsAt (top 24) 5
def ds_Net_hosts_at : He.DefD := ⟨("Net", some "hosts_at"), "hosts_at", "Net.hosts_at", defArgs s_Net_hosts_at, defBody s_Net_hosts_at, defScope s_Net_hosts_at, [], []⟩
abbrev s_Net_door_of : Stmt := clsAt (top 24) 6
def ds_Net_door_of : He.DefD := ⟨("Net", some "door_of"), "door_of", "Net.door_of", defArgs s_Net_door_of, defBody s_Net_door_of, defScope s_Net_door_of, [], []⟩
abbrev s_Net_learn : Stmt := clsAt (top 24) 7
def ds_Net_learn : He.DefD := ⟨("Net", some "learn"), "learn", "Net.learn", defArgs s_Net_learn, defBody s_Net_learn, defScope s_Net_learn, [], []⟩
abbrev s_Net_doors_out : Stmt := clsAt (top 24) 8
def ds_Net_doors_out : He.DefD := ⟨("Net", some "doors_out"), "doors_out", "Net.doors_out", defArgs s_Net_doors_out, defBody s_Net_doors_out, defScope s_Net_doors_out, [], []⟩
abbrev s_Net_send : Stmt := clsAt (top 24) 9
def ds_Net_send : He.DefD := ⟨("Net", some "send"), "send", "Net.send", defArgs s_Net_send, defBody s_Net_send, defScope s_Net_send, [], []⟩
abbrev s_Net_move : Stmt := clsAt (top 24) 10
def ds_Net_move : He.DefD := ⟨("Net", some "move"), "move", "Net.move", defArgs s_Net_move, defBody s_Net_move, defScope s_Net_move, [], []⟩
abbrev s_Net_time : Stmt := clsAt (top 24) 11
def ds_Net_time : He.DefD := ⟨("Net", some "time"), "time", "Net.time", defArgs s_Net_time, defBody s_Net_time, defScope s_Net_time, [], []⟩
abbrev s_Net_places : Stmt := clsAt (top 24) 12
def ds_Net_places : He.DefD := ⟨("Net", some "places"), "places", "Net.places", defArgs s_Net_places, defBody s_Net_places, defScope s_Net_places, [], []⟩
abbrev s_Net_knows : Stmt := clsAt (top 24) 13
def ds_Net_knows : He.DefD := ⟨("Net", some "knows"), "knows", "Net.knows", defArgs s_Net_knows, defBody s_Net_knows, defScope s_Net_knows, [], []⟩
def fn0 : List He.DefD := [ds_is_door, ds_need_web, ds_boxes_from, ds_leads, ds_wrong, ds_until, dsL_taken, dsL_free, dsL_link, dsL_web, dsL_ends, dsL_places, dsL_fresh, dsL_net, dsL_door, dsL_learn, dsL_send, dsL_deed, dsL_due, dsL_does, dsL_joined, dsL_leads, dsL_wrong, dsL_moved_since, dsL_all_know, ds_law, ds_BadWeb___init__, ds_BadPlace___init__, ds_Net___init__, ds_Net_need_place]
def fn1 : List He.DefD := [ds_Net_need_time, ds_Net_need_host, ds_Net_need_letter, ds_Net_hosts_at, ds_Net_door_of, ds_Net_learn, ds_Net_doors_out, ds_Net_send, ds_Net_move, ds_Net_time, ds_Net_places, ds_Net_knows]
def fn : List He.DefD := fn0 ++ fn1
def fa0 : List He.Fa := [.glo "is_door", .glo "need_web", .glo "boxes_from", .glo "leads", .glo "wrong", .glo "until", .glo "_law_taken", .glo "_law_free", .glo "_law_link", .glo "_law_web", .glo "_law_ends", .glo "_law_places", .glo "_law_fresh", .glo "_law_net", .glo "_law_door", .glo "_law_learn", .glo "_law_send", .glo "_law_deed", .glo "_law_due", .glo "_law_does", .glo "_law_joined", .glo "_law_leads", .glo "_law_wrong", .glo "_law_moved_since", .glo "_law_all_know", .glo "law", .glo "PortError", .glo "BadWeb", .glo "BadNet", .glo "BadPlace"]
def fa1 : List He.Fa := [.glo "BadTime", .glo "BadHost", .glo "Net", .cls "Net", .mkr "Net", .meth "Net" "__init__", .meth "Net" "need_place", .meth "Net" "need_time", .meth "Net" "need_host", .meth "Net" "need_letter", .meth "Net" "hosts_at", .meth "Net" "door_of", .meth "Net" "learn", .meth "Net" "doors_out", .meth "Net" "send", .meth "Net" "move", .meth "Net" "time", .meth "Net" "places", .meth "Net" "knows", .noat "Net" "age", .noat "Net" "ends", .noat "Net" "known", .noat "Net" "now", .noat "Net" "room", .noat "Net" "spots", .noat "Net" "web", .int "MOST_BOXES" 6, .int "DOORS" 4, .int "MOST_LINKS" 10, .int "MOST_AGE" 20]
def fa2 : List He.Fa := [.int "MOST_ROOM" 8, .int "MOST_HOSTS" 8, .int "MOST_TIME" 1000, .int "MOST_STEPS" 60, .free "ValueError", .free "int", .free "len", .free "list", .free "max", .free "min", .free "range", .free "set", .free "sorted", .free "tuple"]
def fa : List He.Fa := fa0 ++ fa1 ++ fa2
def names0 : List Str := ["is_door", "need_web", "boxes_from", "leads", "wrong", "until", "_law_taken", "_law_free", "_law_link", "_law_web", "_law_ends", "_law_places", "_law_fresh", "_law_net", "_law_door", "_law_learn", "_law_send", "_law_deed", "_law_due", "_law_does", "_law_joined", "_law_leads", "_law_wrong", "_law_moved_since", "_law_all_know", "PortError", "BadWeb", "BadNet", "BadPlace", "BadTime"]
def names1 : List Str := ["BadHost", "Net", "MOST_BOXES", "DOORS", "MOST_LINKS", "MOST_AGE", "MOST_ROOM", "MOST_HOSTS", "MOST_TIME", "MOST_STEPS"]
def names : List Str := names0 ++ names1
abbrev R : PySem.W.OpenRow := PySem.W.OpenLaw.row PySem.Challenge.rw_learnports_k07_whole_never_long_at_the_w
abbrev hk : PySem.W.Hook := He.hookD 5 fa fn
def ob (s : PySem.W.SharedT) : He.AlD := He.obsDG 5 fa fn (HandSHeadRun.getT s)
theorem ob_eq (s : PySem.W.SharedT) : ob s = hk.obs s.abs := He.obsDG_eq (HandSHeadRun.getT_eq s)
theorem run (w : World) : HandSHeadRun.RunEq R (PySem.W.view R.prog [45]) hk ob 4000 names w := by
  intro os
  kernel_rfl
end Hd
namespace Op
section
open PySem PySem.Spec L2
def Wants (w : World) (mg : Str → Option Value) (fa : Addr) (h : Heap) : Prop := ∃ (K : PySem.W.Frag) (fd : FuncData) (sp : Sp), K.In h ∧ (∀ (s : Shared) (u : Value), BindsTo s fd ⟨[u], []⟩ [("_law_script", u)]) ∧ (∀ (H : Hp) (a : Addr) (ns : List Int), ns.length ≤ 63 → Only H → SqL K H a (ns.map V.int) → sp [.ref a] H (fun v _ => v = .bl true) fun _ _ _ => False) ∧ ∀ base : Heap, K.In base → base.Ns mainGlobals mg → FnOk PySem.Challenge.rw_learnports_k07_whole_never_long_at_the_w.prog w K mg base CX0 6 fa fd ["_law_script"] sp
end
section
open PySem PySem.W PySem.Calls PyProof.Rows
theorem top_of (F : ∀ (w : World) (mg : Str → Option Value) (fa : Addr) (h : Heap), (∃ K : PySem.W.Frag, K.In h ∧ He.SaysD Hd.fa Hd.fn K) → h.Ns mainGlobals mg → mg ("law" : Str) = some (.ref fa) → Wants w mg fa h) : PySem.Challenge.rw_learnports_k07_whole_never_long_at_the_w.Holds := by
  w_on; o_law
  refine HandSHeadRun.head_any (r := OpenLaw.row PySem.Challenge.rw_learnports_k07_whole_never_long_at_the_w) (q := view (OpenLaw.row PySem.Challenge.rw_learnports_k07_whole_never_long_at_the_w).prog [45]) (H := Hd.hk) (ob := Hd.ob) (M := 4000) (loose := Hd.names) (d := HandSHeadRun.topDef (OpenLaw.row PySem.Challenge.rw_learnports_k07_whole_never_long_at_the_w).prog 45) (kwd := []) Hd.ob_eq
    (by kernel_rfl) (fun s => by kernel_rfl) Hd.run (by kernel_rfl) (by kernel_rfl) (by kernel_rfl) (by rfl) (by first | assumption | decide +kernel) (by decide +kernel) ⟨rfl, rfl, rfl, rfl, rfl, by decide +kernel⟩ ?hw ?hc
  case hw => w_witness2
  case hc =>
    refine L2.walk_ofE (l := PySem.Challenge.rw_learnports_k07_whole_never_long_at_the_w) (n := 63) (k := 6) (x := "_law_script") (CX := L2.CX0) rfl (by decide) (by kernel_rfl) ⟨rfl, by decide, by decide⟩ ?F (fun _ _ _ _ z => z)
    intro w mg fa h Y G hmg0
    have hmg : mg ("law" : PySem.Str) = some (.ref fa) := by
      have e : (HandSHeadRun.topDef (OpenLaw.row PySem.Challenge.rw_learnports_k07_whole_never_long_at_the_w).prog 45).name = ("law" : PySem.Str) := by kernel_rfl
      rw [← e]
      exact hmg0
    exact F w mg fa h Y G hmg
end
end Op
namespace Dg
open PySem PySem.Spec PyProof.Rows L2
inductive D where
  | non | bl (b : Bool) | int (i : Int) | str (x : Str) | tup (xs : List D) | lst (xs : List D) | ref (a : Addr)
/-- lists that nobody changes any more -/
abbrev Fz := Addr → Prop
mutual
def Is (F : Fz) (H : Hp) : D → V → Prop
  | .non, v => v = .non
  | .bl b, v => v = .bl b
  | .int i, v => v = .int i
  | .str x, v => v = .str x
  | .ref a, v => v = .ref a
  | .tup ds, v => ∃ a vs, v = .ref a ∧ H a = some (.tup vs) ∧ IsL F H ds vs
  | .lst ds, v => ∃ a vs, v = .ref a ∧ F a ∧ H a = some (.lst vs) ∧ IsL F H ds vs
def IsL (F : Fz) (H : Hp) : List D → List V → Prop
  | [], vs => vs = []
  | d :: ds, vs => ∃ v r, vs = v :: r ∧ Is F H d v ∧ IsL F H ds r
end
structure Ext (F : Fz) (H : Hp) (F' : Fz) (H' : Hp) : Prop where
  f : ∀ a, F a → F' a
  l : ∀ a, F a → H' a = H a
  t : ∀ a xs, H a = some (.tup xs) → H' a = some (.tup xs)
theorem Ext.refl (F : Fz) (H : Hp) : Ext F H F H := ⟨fun _ h => h, fun _ _ => rfl, fun _ _ h => h⟩
theorem Ext.trans {F F1 F2 : Fz} {H H1 H2 : Hp} (a : Ext F H F1 H1) (b : Ext F1 H1 F2 H2) : Ext F H F2 H2 :=
  ⟨fun x h => b.f x (a.f x h), fun x h => (b.l x (a.f x h)).trans (a.l x h), fun x xs h => b.t x xs (a.t x xs h)⟩
mutual
theorem Is.mono {F F' : Fz} {H H' : Hp} (e : Ext F H F' H') : ∀ {d : D} {v : V}, Is F H d v → Is F' H' d v
  | .non, _, h => by rw [Is] at h ⊢; exact h
  | .bl _, _, h => by rw [Is] at h ⊢; exact h
  | .int _, _, h => by rw [Is] at h ⊢; exact h
  | .str _, _, h => by rw [Is] at h ⊢; exact h
  | .ref _, _, h => by rw [Is] at h ⊢; exact h
  | .tup ds, _, h => by
    rw [Is] at h ⊢
    obtain ⟨a, vs, h1, h2, h3⟩ := h
    exact ⟨a, vs, h1, e.t a vs h2, IsL.mono e h3⟩
  | .lst ds, _, h => by
    rw [Is] at h ⊢
    obtain ⟨a, vs, h1, h2, h3, h4⟩ := h
    exact ⟨a, vs, h1, e.f a h2, (e.l a h2).trans h3, IsL.mono e h4⟩
theorem IsL.mono {F F' : Fz} {H H' : Hp} (e : Ext F H F' H') : ∀ {ds : List D} {vs : List V}, IsL F H ds vs → IsL F' H' ds vs
  | [], _, h => by rw [IsL] at h ⊢; exact h
  | d :: ds, _, h => by
    rw [IsL] at h ⊢
    obtain ⟨v, r, h1, h2, h3⟩ := h
    exact ⟨v, r, h1, Is.mono e h2, IsL.mono e h3⟩
end
theorem is_non {F : Fz} {H : Hp} {v : V} : Is F H .non v ↔ v = .non := by rw [Is]
theorem is_bl {F : Fz} {H : Hp} {b : Bool} {v : V} : Is F H (.bl b) v ↔ v = .bl b := by rw [Is]
theorem is_int {F : Fz} {H : Hp} {i : Int} {v : V} : Is F H (.int i) v ↔ v = .int i := by rw [Is]
theorem is_str {F : Fz} {H : Hp} {x : Str} {v : V} : Is F H (.str x) v ↔ v = .str x := by rw [Is]
theorem is_ref {F : Fz} {H : Hp} {a : Addr} {v : V} : Is F H (.ref a) v ↔ v = .ref a := by rw [Is]
theorem is_tup {F : Fz} {H : Hp} {ds : List D} {v : V} : Is F H (.tup ds) v ↔ ∃ a vs, v = .ref a ∧ H a = some (.tup vs) ∧ IsL F H ds vs := by rw [Is]
theorem is_lst {F : Fz} {H : Hp} {ds : List D} {v : V} : Is F H (.lst ds) v ↔ ∃ a vs, v = .ref a ∧ F a ∧ H a = some (.lst vs) ∧ IsL F H ds vs := by rw [Is]
theorem isL_nil {F : Fz} {H : Hp} {vs : List V} : IsL F H [] vs ↔ vs = [] := by rw [IsL]
theorem isL_cons {F : Fz} {H : Hp} {d : D} {ds : List D} {vs : List V} : IsL F H (d :: ds) vs ↔ ∃ v r, vs = v :: r ∧ Is F H d v ∧ IsL F H ds r := by rw [IsL]
theorem IsL.cons {F : Fz} {H : Hp} {d : D} {ds : List D} {v : V} {vs : List V} (h : Is F H d v) (hs : IsL F H ds vs) : IsL F H (d :: ds) (v :: vs) := isL_cons.mpr ⟨v, vs, rfl, h, hs⟩
theorem IsL.nil {F : Fz} {H : Hp} : IsL F H [] [] := isL_nil.mpr rfl
theorem IsL.length {F : Fz} {H : Hp} : ∀ {ds : List D} {vs : List V}, IsL F H ds vs → vs.length = ds.length
  | [], vs, h => by
    rw [isL_nil.mp h]
    rfl
  | d :: ds, vs, h => by
    obtain ⟨v, r, rfl, _, h3⟩ := isL_cons.mp h
    rw [List.length_cons, List.length_cons, IsL.length h3]
theorem IsL.get {F : Fz} {H : Hp} : ∀ {ds : List D} {vs : List V} {i : Nat} {d : D}, IsL F H ds vs → ds[i]? = some d → ∃ v, vs[i]? = some v ∧ Is F H d v
  | [], vs, i, d, h, e => by simp at e
  | d :: ds, vs, 0, x, h, e => by
    obtain ⟨v, r, rfl, h2, h3⟩ := isL_cons.mp h
    have e : d = x := by simpa using e
    subst e
    exact ⟨v, rfl, h2⟩
  | d :: ds, vs, i + 1, x, h, e => by
    obtain ⟨v, r, rfl, h2, h3⟩ := isL_cons.mp h
    have e : ds[i]? = some x := by simpa using e
    obtain ⟨w, h4, h5⟩ := IsL.get h3 e
    exact ⟨w, by simpa using h4, h5⟩
theorem IsL.getV {F : Fz} {H : Hp} {ds : List D} {vs : List V} {i : Nat} {v : V} (h : IsL F H ds vs) (e : vs[i]? = some v) : ∃ d, ds[i]? = some d ∧ Is F H d v := by
  have hl := h.length
  have hi : i < vs.length := by
    rcases Nat.lt_or_ge i vs.length with z | z
    · exact z
    · rw [List.getElem?_eq_none z] at e
      cases e
  have e2 : ds[i]? = some (ds[i]'(by omega)) := List.getElem?_eq_getElem (by omega)
  obtain ⟨w, h4, h5⟩ := h.get e2
  rw [h4] at e
  cases e
  exact ⟨_, e2, h5⟩
theorem IsL.append {F : Fz} {H : Hp} : ∀ {ds es : List D} {vs us : List V}, IsL F H ds vs → IsL F H es us → IsL F H (ds ++ es) (vs ++ us)
  | [], es, vs, us, h, h2 => by
    rw [isL_nil.mp h]
    exact h2
  | d :: ds, es, vs, us, h, h2 => by
    obtain ⟨v, r, rfl, h3, h4⟩ := isL_cons.mp h
    exact IsL.cons h3 (IsL.append h4 h2)
theorem IsL.set {F : Fz} {H : Hp} {d : D} {v : V} (hd : Is F H d v) : ∀ {ds : List D} {vs : List V} (i : Nat), IsL F H ds vs → IsL F H (ds.set i d) (vs.set i v)
  | [], vs, i, h => by
    rw [isL_nil.mp h]
    exact IsL.nil
  | x :: ds, vs, 0, h => by
    obtain ⟨w, r, rfl, h3, h4⟩ := isL_cons.mp h
    exact IsL.cons hd h4
  | x :: ds, vs, i + 1, h => by
    obtain ⟨w, r, rfl, h3, h4⟩ := isL_cons.mp h
    exact IsL.cons h3 (IsL.set hd i h4)
theorem IsL.take {F : Fz} {H : Hp} : ∀ {ds : List D} {vs : List V} (n : Nat), IsL F H ds vs → IsL F H (ds.take n) (vs.take n)
  | _, _, 0, _ => IsL.nil
  | [], vs, n + 1, h => by
    rw [isL_nil.mp h]
    exact IsL.nil
  | x :: ds, vs, n + 1, h => by
    obtain ⟨w, r, rfl, h3, h4⟩ := isL_cons.mp h
    exact IsL.cons h3 (IsL.take n h4)
theorem IsL.drop {F : Fz} {H : Hp} : ∀ {ds : List D} {vs : List V} (n : Nat), IsL F H ds vs → IsL F H (ds.drop n) (vs.drop n)
  | _, _, 0, h => h
  | [], vs, n + 1, h => by
    rw [isL_nil.mp h]
    exact IsL.nil
  | x :: ds, vs, n + 1, h => by
    obtain ⟨w, r, rfl, h3, h4⟩ := isL_cons.mp h
    exact IsL.drop n h4
theorem IsL.ints {F : Fz} {H : Hp} : ∀ {ns : List Int} {vs : List V}, IsL F H (ns.map D.int) vs → vs = ns.map V.int
  | [], vs, h => isL_nil.mp h
  | n :: ns, vs, h => by
    obtain ⟨w, r, rfl, h3, h4⟩ := isL_cons.mp (show IsL F H (D.int n :: ns.map D.int) vs from h)
    rw [is_int.mp h3, IsL.ints h4]
    rfl
theorem IsL.of_ints {F : Fz} {H : Hp} : ∀ {ns : List Int}, IsL F H (ns.map D.int) (ns.map V.int)
  | [] => IsL.nil
  | n :: ns => IsL.cons (is_int.mpr rfl) IsL.of_ints
inductive SO where
  | lst (xs : List D) | dK (kvs : List (Key × D)) | dT (kvs : List (List Key × D)) | lkK (z : HO) (kvs : List (Key × D)) | lkT (z : HO) (kvs : List (List Key × D))
  | ins (C dx : Addr) (fs : List (Str × D)) | scr (ns : List Int) | raw (o : HO)
/-- a simple thing, or one that is laid over several -/
inductive GO where
  | sm (o : SO)
  | cmp (L : Addr → List (Addr × SO) → Prop)
abbrev Gp := Addr → Option GO
def ud (G : Gp) (a : Addr) (g : GO) : Gp := fun b => if b = a then some g else G b
theorem ud_same {G : Gp} {a : Addr} {g : GO} : ud G a g a = some g := if_pos rfl
theorem ud_ne {G : Gp} {a b : Addr} {g : GO} (h : b ≠ a) : ud G a g b = G b := if_neg h
theorem ud_ud {G : Gp} {a : Addr} {g g' : GO} : ud (ud G a g) a g' = ud G a g' := by
  funext b
  unfold ud
  split <;> rfl
theorem ud_self {G : Gp} {a : Addr} {g : GO} (h : G a = some g) : ud G a g = G := by
  funext b
  unfold ud
  split
  · rename_i e
    rw [e, h]
  · rfl
theorem ud_comm {G : Gp} {a b : Addr} {g g' : GO} (h : a ≠ b) : ud (ud G a g) b g' = ud (ud G b g') a g := by
  funext c
  unfold ud
  by_cases e1 : c = b
  · rw [if_pos e1, if_neg (fun z => h (z.symm.trans e1)), if_pos e1]
  · rw [if_neg e1, if_neg e1]
def er (G : Gp) (a : Addr) : Gp := fun b => if b = a then none else G b
theorem er_same {G : Gp} {a : Addr} : er G a a = none := if_pos rfl
theorem er_ne {G : Gp} {a b : Addr} (h : b ≠ a) : er G a b = G b := if_neg h
theorem er_ud {G : Gp} {a : Addr} {g : GO} (h : G a = none) : er (ud G a g) a = G := by
  funext b
  unfold er ud
  by_cases e : b = a
  · rw [if_pos e, e, h]
  · rw [if_neg e, if_neg e]
def IsP {κ : Type} (F : Fz) (H : Hp) : List (κ × D) → List (κ × V) → Prop := Paired fun p q => p.1 = q.1 ∧ Is F H p.2 q.2
theorem IsP.mono {κ : Type} {F F' : Fz} {H H' : Hp} (e : Ext F H F' H') {kds : List (κ × D)} {kvs : List (κ × V)} (h : IsP F H kds kvs) : IsP F' H' kds kvs :=
  Paired.mapP h fun _ _ z => ⟨z.1, Is.mono e z.2⟩
theorem IsP.keys {κ : Type} {F : Fz} {H : Hp} : ∀ {kds : List (κ × D)} {kvs : List (κ × V)}, IsP F H kds kvs → kvs.map (·.1) = kds.map (·.1)
  | _, _, .nil => rfl
  | _, _, .cons r t => by
    have ih := IsP.keys t
    rw [List.map_cons, List.map_cons, ih, r.1]
theorem IsP.length {κ : Type} {F : Fz} {H : Hp} {kds : List (κ × D)} {kvs : List (κ × V)} (h : IsP F H kds kvs) : kvs.length = kds.length := by
  have e := congrArg List.length h.keys
  rwa [List.length_map, List.length_map] at e
def Sm (F : Fz) (H : Hp) : SO → HO → Prop
  | .lst ds, h => ∃ vs, h = .lst vs ∧ IsL F H ds vs
  | .dK kds, h => ∃ kvs, h = .dK kvs ∧ IsP F H kds kvs
  | .dT kds, h => ∃ kvs, h = .dT kvs ∧ IsP F H kds kvs
  | .lkK z kds, h => h = z ∧ ∃ o kvs, h = .frz o (.dK kvs) ∧ IsP F H kds kvs
  | .lkT z kds, h => h = z ∧ ∃ o kvs, h = .frz o (.dT kvs) ∧ IsP F H kds kvs
  | .ins C dx fs, h => ∃ gs, h = .ins C dx gs ∧ IsP F H fs gs
  | .scr ns, h => ∃ o, h = .frz o (.lst (ns.map V.int))
  | .raw o, h => h = o ∧ ∀ xs, o ≠ .tup xs
theorem Sm.mono {F F' : Fz} {H H' : Hp} (e : Ext F H F' H') {o : SO} {h : HO} (s : Sm F H o h) : Sm F' H' o h := by
  cases o with
  | lst ds => obtain ⟨vs, h1, h2⟩ := s; exact ⟨vs, h1, h2.mono e⟩
  | dK ds => obtain ⟨vs, h1, h2⟩ := s; exact ⟨vs, h1, h2.mono e⟩
  | dT ds => obtain ⟨vs, h1, h2⟩ := s; exact ⟨vs, h1, h2.mono e⟩
  | lkK zz ds => obtain ⟨h0, z, vs, h1, h2⟩ := s; exact ⟨h0, z, vs, h1, h2.mono e⟩
  | lkT zz ds => obtain ⟨h0, z, vs, h1, h2⟩ := s; exact ⟨h0, z, vs, h1, h2.mono e⟩
  | ins C dx fs => obtain ⟨vs, h1, h2⟩ := s; exact ⟨vs, h1, h2.mono e⟩
  | scr ns => exact s
  | raw o => exact s
theorem Sm.notTup {F : Fz} {H : Hp} {o : SO} {h : HO} (s : Sm F H o h) (xs : List V) : h ≠ .tup xs := by
  cases o with
  | lst ds => obtain ⟨vs, h1, h2⟩ := s; rw [h1]; exact HO.noConfusion
  | dK ds => obtain ⟨vs, h1, h2⟩ := s; rw [h1]; exact HO.noConfusion
  | dT ds => obtain ⟨vs, h1, h2⟩ := s; rw [h1]; exact HO.noConfusion
  | lkK zz ds => obtain ⟨h0, z, vs, h1, h2⟩ := s; rw [h1]; exact HO.noConfusion
  | lkT zz ds => obtain ⟨h0, z, vs, h1, h2⟩ := s; rw [h1]; exact HO.noConfusion
  | ins C dx fs => obtain ⟨vs, h1, h2⟩ := s; rw [h1]; exact HO.noConfusion
  | scr ns => obtain ⟨z, h1⟩ := s; rw [h1]; exact HO.noConfusion
  | raw o => rw [s.1]; exact s.2 xs
abbrev Sp0 := Addr → Option SO
def HgS (F : Fz) (H : Hp) (S : Sp0) : Prop := ∀ a o, S a = some o → ¬ F a ∧ ∃ h, H a = some h ∧ Sm F H o h
def Fok (F : Fz) (H : Hp) : Prop := ∀ a, F a → ∃ vs, H a = some (.lst vs)
def Flat (G : Gp) (S : Sp0) (ow : Addr → Addr) : Prop := ∀ a g, G a = some g → ow a = a ∧ (match g with
  | .sm o => S a = some o
  | .cmp L => ∃ ps, L a ps ∧ (∃ o, (a, o) ∈ ps) ∧ ∀ b o, (b, o) ∈ ps → S b = some o ∧ ow b = a)
structure Hg (F : Fz) (H : Hp) (G : Gp) : Prop where
  fok : Fok F H
  ex : ∃ S ow, HgS F H S ∧ Flat G S ow
theorem Flat.here {G : Gp} {S : Sp0} {ow : Addr → Addr} (f : Flat G S ow) {a : Addr} {g : GO} (h : G a = some g) : ∃ o, S a = some o := by
  have z := (f a g h).2
  cases g with
  | sm o => exact ⟨o, z⟩
  | cmp L =>
    obtain ⟨ps, _, ⟨o, ho⟩, h2⟩ := z
    exact ⟨o, (h2 a o ho).1⟩
theorem Hg.here {F : Fz} {H : Hp} {G : Gp} (g : Hg F H G) {a : Addr} {x : GO} (h : G a = some x) : ∃ o, H a = some o := by
  obtain ⟨S, ow, hs, f⟩ := g.ex
  obtain ⟨o, ho⟩ := f.here h
  obtain ⟨_, z, hz, _⟩ := hs a o ho
  exact ⟨z, hz⟩
theorem Hg.fresh {F : Fz} {H : Hp} {G : Gp} (g : Hg F H G) {p : Addr} (h : H p = none) : G p = none := by
  cases e : G p with
  | none => rfl
  | some x =>
    obtain ⟨o, ho⟩ := g.here e
    rw [h] at ho
    cases ho
theorem Hg.get {F : Fz} {H : Hp} {G : Gp} (g : Hg F H G) {a : Addr} {o : SO} (h : G a = some (.sm o)) : ∃ z, H a = some z ∧ Sm F H o z := by
  obtain ⟨S, ow, hs, f⟩ := g.ex
  have e : S a = some o := (f a _ h).2
  exact (hs a o e).2
theorem Hg.mono {F : Fz} {H : Hp} {G G' : Gp} (g : Hg F H G) (k : ∀ a x, G' a = some x → G a = some x) : Hg F H G' := by
  obtain ⟨S, ow, hs, f⟩ := g.ex
  exact ⟨g.fok, S, ow, hs, fun a x e => f a x (k a x e)⟩
theorem Fok.upd {F : Fz} {H : Hp} {p : Addr} {o : HO} (f : Fok F H) (h : ¬ F p) : Fok F (upd H p o) := fun a ha => by
  have ne : a ≠ p := fun e => h (e ▸ ha)
  rw [upd_ne ne]
  exact f a ha
theorem ext_new {F : Fz} {H : Hp} {p : Addr} {o : HO} (f : Fok F H) (h : H p = none) : Ext F H F (upd H p o) :=
  ⟨fun _ z => z, fun a ha => upd_ne (fun e => by
    obtain ⟨vs, z⟩ := f a ha
    rw [e, h] at z
    cases z), fun a xs z => (upd_ne (ne_of_none z h)).trans z⟩
theorem nf_new {F : Fz} {H : Hp} {p : Addr} (f : Fok F H) (h : H p = none) : ¬ F p := fun ha => by
  obtain ⟨vs, z⟩ := f p ha
  rw [h] at z
  cases z
/-- a new thing that is owned -/
theorem Hg.new {F : Fz} {H : Hp} {G : Gp} (g : Hg F H G) {p : Addr} {o : SO} {z : HO} (h : H p = none) (s : Sm F (upd H p z) o z) : Hg F (upd H p z) (ud G p (.sm o)) := by
  obtain ⟨S, ow, hs, f⟩ := g.ex
  have ex : Ext F H F (upd H p z) := ext_new g.fok h
  have nf := nf_new g.fok h
  have sp : ∀ b o, S b = some o → b ≠ p := fun b o e q => by
    obtain ⟨_, y, hy, _⟩ := hs b o e
    rw [q, h] at hy
    cases hy
  refine ⟨g.fok.upd nf, fun b => if b = p then some o else S b, fun b => if b = p then p else ow b, fun b x e => ?_, fun a x e => ?_⟩
  · by_cases hb : b = p
    · have e2 : (if b = p then some o else S b) = some x := e
      rw [if_pos hb] at e2
      cases e2
      subst hb
      exact ⟨nf, z, upd_same, s⟩
    · have e2 : (if b = p then some o else S b) = some x := e
      rw [if_neg hb] at e2
      obtain ⟨n1, y, hy, sy⟩ := hs b x e2
      exact ⟨n1, y, by rw [upd_ne hb]; exact hy, sy.mono ex⟩
  · by_cases ha : a = p
    · subst ha
      rw [ud_same] at e
      cases e
      exact ⟨if_pos rfl, if_pos rfl⟩
    · rw [ud_ne ha] at e
      obtain ⟨h1, h2⟩ := f a x e
      refine ⟨by show (if a = p then p else ow a) = a; rw [if_neg ha]; exact h1, ?_⟩
      cases x with
      | sm y => show (if a = p then some o else S a) = some y; rw [if_neg ha]; exact h2
      | cmp L =>
        obtain ⟨ps, l, ho, hp⟩ := h2
        refine ⟨ps, l, ho, fun b y hb => ?_⟩
        obtain ⟨h3, h4⟩ := hp b y hb
        have nb := sp b y h3
        exact ⟨by show (if b = p then some o else S b) = some y; rw [if_neg nb]; exact h3, by show (if b = p then p else ow b) = a; rw [if_neg nb]; exact h4⟩
/-- something new that nobody owns (a tuple) -/
theorem Hg.newT {F : Fz} {H : Hp} {G : Gp} (g : Hg F H G) {p : Addr} {z : HO} (h : H p = none) : Hg F (upd H p z) G := by
  obtain ⟨S, ow, hs, f⟩ := g.ex
  have ex : Ext F H F (upd H p z) := ext_new g.fok h
  refine ⟨g.fok.upd (nf_new g.fok h), S, ow, fun b x e => ?_, f⟩
  obtain ⟨n1, y, hy, sy⟩ := hs b x e
  exact ⟨n1, y, by rw [upd_ne (ne_of_none hy h)]; exact hy, sy.mono ex⟩
theorem ext_own {F : Fz} {H : Hp} {G : Gp} (g : Hg F H G) {a : Addr} {o : SO} {z : HO} (h : G a = some (.sm o)) : Ext F H F (upd H a z) := by
  obtain ⟨S, ow, hs, f⟩ := g.ex
  have e : S a = some o := (f a _ h).2
  obtain ⟨nf, y, hy, sy⟩ := hs a o e
  exact ⟨fun _ q => q, fun b hb => upd_ne fun q => nf (q ▸ hb), fun b xs q => by
    have nb : b ≠ a := fun w => by
      rw [w, hy] at q
      exact sy.notTup xs (Option.some.inj q)
    rw [upd_ne nb]
    exact q⟩
/-- an owned thing is changed -/
theorem Hg.set {F : Fz} {H : Hp} {G : Gp} (g : Hg F H G) {a : Addr} {o o' : SO} {z : HO} (h : G a = some (.sm o)) (s : Sm F (upd H a z) o' z) : Hg F (upd H a z) (ud G a (.sm o')) := by
  have ex := ext_own (z := z) g h
  obtain ⟨S, ow, hs, f⟩ := g.ex
  have e0 : S a = some o := (f a _ h).2
  obtain ⟨nf, y0, hy0, sy0⟩ := hs a o e0
  refine ⟨g.fok.upd nf, fun b => if b = a then some o' else S b, ow, fun b x e => ?_, fun c x e => ?_⟩
  · by_cases hb : b = a
    · have e2 : (if b = a then some o' else S b) = some x := e
      rw [if_pos hb] at e2
      cases e2
      subst hb
      exact ⟨nf, z, upd_same, s⟩
    · have e2 : (if b = a then some o' else S b) = some x := e
      rw [if_neg hb] at e2
      obtain ⟨n1, y, hy, sy⟩ := hs b x e2
      exact ⟨n1, y, by rw [upd_ne hb]; exact hy, sy.mono ex⟩
  · by_cases hc : c = a
    · subst hc
      rw [ud_same] at e
      cases e
      exact ⟨(f c _ h).1, if_pos rfl⟩
    · rw [ud_ne hc] at e
      obtain ⟨h1, h2⟩ := f c x e
      refine ⟨h1, ?_⟩
      cases x with
      | sm y => show (if c = a then some o' else S c) = some y; rw [if_neg hc]; exact h2
      | cmp L =>
        obtain ⟨ps, l, ho, hp⟩ := h2
        refine ⟨ps, l, ho, fun b y hb => ?_⟩
        obtain ⟨h3, h4⟩ := hp b y hb
        have nb : b ≠ a := fun q => by
          have w := (f a _ h).1
          rw [q, w] at h4
          exact hc h4.symm
        exact ⟨by show (if b = a then some o' else S b) = some y; rw [if_neg nb]; exact h3, h4⟩
/-- a list is given up: it stays as it is for ever -/
theorem Hg.freeze {F : Fz} {H : Hp} {G : Gp} (g : Hg F H G) {p : Addr} {ds : List D} (h : G p = some (.sm (.lst ds))) :
    Ext F H (fun b => F b ∨ b = p) H ∧ Hg (fun b => F b ∨ b = p) H (er G p) ∧ Is (fun b => F b ∨ b = p) H (.lst ds) (.ref p) := by
  have ex : Ext F H (fun b => F b ∨ b = p) H := ⟨fun _ z => .inl z, fun _ _ => rfl, fun _ _ z => z⟩
  obtain ⟨S, ow, hs, f⟩ := g.ex
  have e0 : S p = some (.lst ds) := (f p _ h).2
  obtain ⟨nf, y0, hy0, vs, rfl, hl⟩ := hs p _ e0
  refine ⟨ex, ⟨fun a ha => ?_, fun b => if b = p then none else S b, ow, fun b x e => ?_, fun c x e => ?_⟩, is_lst.mpr ⟨p, vs, rfl, .inr rfl, hy0, hl.mono ex⟩⟩
  · rcases ha with ha | ha
    · exact g.fok a ha
    · rw [ha]
      exact ⟨vs, hy0⟩
  · by_cases hb : b = p
    · have e2 : (if b = p then none else S b) = some x := e
      rw [if_pos hb] at e2
      cases e2
    · have e2 : (if b = p then none else S b) = some x := e
      rw [if_neg hb] at e2
      obtain ⟨n1, y, hy, sy⟩ := hs b x e2
      exact ⟨fun z => z.elim n1 hb, y, hy, sy.mono ex⟩
  · by_cases hc : c = p
    · rw [hc, er_same] at e
      cases e
    · rw [er_ne hc] at e
      obtain ⟨h1, h2⟩ := f c x e
      refine ⟨h1, ?_⟩
      cases x with
      | sm y => show (if c = p then none else S c) = some y; rw [if_neg hc]; exact h2
      | cmp L =>
        obtain ⟨ps, l, ho, hp⟩ := h2
        refine ⟨ps, l, ho, fun b y hb => ?_⟩
        obtain ⟨h3, h4⟩ := hp b y hb
        have nb : b ≠ p := fun q => by
          have w := (f p _ h).1
          rw [q, w] at h4
          exact hc h4.symm
        exact ⟨by show (if b = p then none else S b) = some y; rw [if_neg nb]; exact h3, h4⟩
/-- a laid thing is opened -/
theorem Hg.openC {F : Fz} {H : Hp} {G : Gp} (g : Hg F H G) {a : Addr} {L : Addr → List (Addr × SO) → Prop} (h : G a = some (.cmp L)) :
    ∃ ps, L a ps ∧ (∃ o, (a, o) ∈ ps) ∧ (∀ b o, (b, o) ∈ ps → b ≠ a → G b = none) ∧ (∀ b o o', (b, o) ∈ ps → (b, o') ∈ ps → o = o') ∧
      ∀ G' : Gp, (∀ b x, G' b = some x → (G b = some x ∧ b ≠ a) ∨ ∃ o, (b, o) ∈ ps ∧ x = .sm o) → Hg F H G' := by
  obtain ⟨S, ow, hs, f⟩ := g.ex
  obtain ⟨h1, ps, l, ho, hp⟩ := f a _ h
  refine ⟨ps, l, ho, fun b o hb ne => ?_, fun b o o' hb hb' => ?_, fun G' k => ?_⟩
  · cases e : G b with
    | none => rfl
    | some x =>
      have w := (f b x e).1
      have w2 := (hp b o hb).2
      rw [w] at w2
      exact absurd w2 ne
  · have e1 := (hp b o hb).1
    have e2 := (hp b o' hb').1
    rw [e1] at e2
    exact Option.some.inj e2
  · have pin : ∀ b, (∃ o, (b, o) ∈ ps) ∨ ¬ (∃ o, (b, o) ∈ ps) := fun b => Classical.em _
    refine ⟨g.fok, S, fun b => @ite _ (∃ o, (b, o) ∈ ps) (Classical.propDecidable _) b (ow b), hs, fun b x e => ?_⟩
    rcases k b x e with ⟨e1, nb⟩ | ⟨o, hb, rfl⟩
    · obtain ⟨w1, w2⟩ := f b x e1
      have nin : ¬ ∃ o, (b, o) ∈ ps := fun ⟨o, hb⟩ => nb (by
        have z := (hp b o hb).2
        rw [w1] at z
        exact z)
      refine ⟨(if_neg nin).trans w1, ?_⟩
      cases x with
      | sm y => exact w2
      | cmp L' =>
        obtain ⟨ps', l', ho', hp'⟩ := w2
        refine ⟨ps', l', ho', fun c y hc => ?_⟩
        obtain ⟨w3, w4⟩ := hp' c y hc
        have nin2 : ¬ ∃ o, (c, o) ∈ ps := fun ⟨o, hb⟩ => nb (by
          have z := (hp c o hb).2
          rw [w4] at z
          exact z)
        exact ⟨w3, (if_neg nin2).trans w4⟩
    · exact ⟨if_pos ⟨o, hb⟩, (hp b o hb).1⟩
/-- simple things are laid together -/
theorem Hg.close {F : Fz} {H : Hp} {G : Gp} (g : Hg F H G) {a : Addr} {L : Addr → List (Addr × SO) → Prop} {ps : List (Addr × SO)} (l : L a ps) (ho : ∃ o, (a, o) ∈ ps) (hp : ∀ b o, (b, o) ∈ ps → G b = some (.sm o))
    {G' : Gp} (k : ∀ b x, G' b = some x → (b = a ∧ x = .cmp L) ∨ (G b = some x ∧ ∀ o, (b, o) ∉ ps)) : Hg F H G' := by
  obtain ⟨S, ow, hs, f⟩ := g.ex
  refine ⟨g.fok, S, fun b => @ite _ (∃ o, (b, o) ∈ ps) (Classical.propDecidable _) a (ow b), hs, fun b x e => ?_⟩
  rcases k b x e with ⟨rfl, rfl⟩ | ⟨e1, nin⟩
  · refine ⟨if_pos ho, ps, l, ho, fun c y hc => ⟨?_, if_pos ⟨y, hc⟩⟩⟩
    exact (f c _ (hp c y hc)).2
  · obtain ⟨w1, w2⟩ := f b x e1
    have nin' : ¬ ∃ o, (b, o) ∈ ps := fun ⟨o, z⟩ => nin o z
    refine ⟨(if_neg nin').trans w1, ?_⟩
    cases x with
    | sm y => exact w2
    | cmp L' =>
      obtain ⟨ps', l', ho', hp'⟩ := w2
      refine ⟨ps', l', ho', fun c y hc => ?_⟩
      obtain ⟨w3, w4⟩ := hp' c y hc
      have nin2 : ¬ ∃ o, (c, o) ∈ ps := fun ⟨o, z⟩ => by
        have e2 := hp c o z
        have w5 := (f c _ e2).1
        rw [w4] at w5
        subst w5
        rw [e1] at e2
        cases e2
      exact ⟨w3, (if_neg nin2).trans w4⟩
end Dg
namespace Dg
open PySem PySem.Spec L2
abbrev DSt := List (Option D)
abbrev DK := D → Gp → Prop
abbrev DE := DSt → Gp → DK → Prop
abbrev DT := DSt → Gp → (Bool → Gp → Prop) → Prop
abbrev DA := DSt → Gp → (List D → Gp → Prop) → Prop
structure DEnds where
  nx : DSt → Gp → Prop
  rt : DK
  bk : DSt → Gp → Prop := fun _ _ => False
  ct : DSt → Gp → Prop := fun _ _ => False
abbrev DS := DEnds → DSt → Gp → Prop
abbrev DG := D → DSt → Gp → (DSt → Gp → Prop) → Prop
abbrev DGs := List D → DSt → Gp → (DSt → Gp → Prop) → Prop
def IsS (F : Fz) (H : Hp) (s : DSt) (σ : St) : Prop := s.length = σ.length ∧ ∀ (i : Nat) (d : D), s[i]? = some (some d) → ∃ v, σ[i]? = some (some v) ∧ Is F H d v
theorem IsS.mono {F F' : Fz} {H H' : Hp} {s : DSt} {σ : St} (e : Ext F H F' H') (h : IsS F H s σ) : IsS F' H' s σ :=
  ⟨h.1, fun i d z => let ⟨v, a, b⟩ := h.2 i d z; ⟨v, a, b.mono e⟩⟩
theorem IsS.set {F : Fz} {H : Hp} {s : DSt} {σ : St} {d : D} {v : V} (h : IsS F H s σ) (i : Nat) (hd : Is F H d v) : IsS F H (s.set i (some d)) (σ.set i (some v)) := by
  refine ⟨by rw [List.length_set, List.length_set]; exact h.1, fun j x e => ?_⟩
  by_cases hj : i = j
  · subst hj
    by_cases hi : i < s.length
    · rw [List.getElem?_set_self hi] at e
      cases e
      exact ⟨v, by rw [List.getElem?_set_self (by rw [← h.1]; exact hi)], hd⟩
    · rw [List.getElem?_eq_none (by rw [List.length_set]; omega)] at e
      cases e
  · rw [List.getElem?_set_ne hj] at e
    obtain ⟨w, a, b⟩ := h.2 j x e
    exact ⟨w, by rw [List.getElem?_set_ne hj]; exact a, b⟩
theorem IsS.wipe1 {F : Fz} {H : Hp} {s : DSt} {σ : St} (h : IsS F H s σ) (i : Nat) : IsS F H (s.set i none) (σ.set i none) := by
  refine ⟨by rw [List.length_set, List.length_set]; exact h.1, fun j x e => ?_⟩
  by_cases hj : i = j
  · subst hj
    by_cases hi : i < s.length
    · rw [List.getElem?_set_self hi] at e
      cases e
    · rw [List.getElem?_eq_none (by rw [List.length_set]; omega)] at e
      cases e
  · rw [List.getElem?_set_ne hj] at e
    obtain ⟨w, a, b⟩ := h.2 j x e
    exact ⟨w, by rw [List.getElem?_set_ne hj]; exact a, b⟩
/-- a comprehension's own slots are empty outside it -/
def wipeD (s : DSt) : List Nat → DSt
  | [] => s
  | v :: vs => (wipeD s vs).set v none
theorem IsS.wipe {F : Fz} {H : Hp} {s : DSt} {σ : St} (h : IsS F H s σ) : ∀ vs : List Nat, IsS F H (wipeD s vs) (wipe σ vs)
  | [] => h
  | v :: vs => (IsS.wipe h vs).wipe1 v
def Kc (F : Fz) (H : Hp) (Q : VK) (Q' : DK) : Prop := ∀ v H' F' d G', Ext F H F' H' → Hg F' H' G' → Is F' H' d v → Q' d G' → Q v H'
theorem Kc.step {F F1 : Fz} {H H1 : Hp} {Q : VK} {Q' : DK} (k : Kc F H Q Q') (e : Ext F H F1 H1) : Kc F1 H1 Q Q' := fun v H' F' d G' e' g i q => k v H' F' d G' (e.trans e') g i q
theorem Kc.fin {F : Fz} {H : Hp} {Q : VK} {Q' : DK} (k : Kc F H Q Q') {G : Gp} {d : D} {v : V} (g : Hg F H G) (i : Is F H d v) (q : Q' d G) : Q v H := k v H F d G (Ext.refl F H) g i q
def Kb (F : Fz) (H : Hp) (Q : Bool → Hp → Prop) (Q' : Bool → Gp → Prop) : Prop := ∀ b H' F' G', Ext F H F' H' → Hg F' H' G' → Q' b G' → Q b H'
theorem Kb.step {F F1 : Fz} {H H1 : Hp} {Q : Bool → Hp → Prop} {Q' : Bool → Gp → Prop} (k : Kb F H Q Q') (e : Ext F H F1 H1) : Kb F1 H1 Q Q' := fun b H' F' G' e' g q => k b H' F' G' (e.trans e') g q
def Ka (F : Fz) (H : Hp) (Q : List V → Hp → Prop) (Q' : List D → Gp → Prop) : Prop := ∀ vs H' F' ds G', Ext F H F' H' → Hg F' H' G' → IsL F' H' ds vs → Q' ds G' → Q vs H'
theorem Ka.step {F F1 : Fz} {H H1 : Hp} {Q : List V → Hp → Prop} {Q' : List D → Gp → Prop} (k : Ka F H Q Q') (e : Ext F H F1 H1) : Ka F1 H1 Q Q' := fun v H' F' d G' e' g i q => k v H' F' d G' (e.trans e') g i q
def Ks (F : Fz) (H : Hp) (Q : St → Hp → Prop) (Q' : DSt → Gp → Prop) : Prop := ∀ σ' H' F' s' G', Ext F H F' H' → IsS F' H' s' σ' → Hg F' H' G' → Q' s' G' → Q σ' H'
theorem Ks.step {F F1 : Fz} {H H1 : Hp} {Q : St → Hp → Prop} {Q' : DSt → Gp → Prop} (k : Ks F H Q Q') (e : Ext F H F1 H1) : Ks F1 H1 Q Q' := fun v H' F' d G' e' i g q => k v H' F' d G' (e.trans e') i g q
structure Ek (F : Fz) (H : Hp) (D : Ends) (D' : DEnds) : Prop where
  nx : Ks F H D.nx D'.nx
  rt : Kc F H D.rt D'.rt
  bk : Ks F H D.bk D'.bk
  ct : Ks F H D.ct D'.ct
theorem Ek.step {F F1 : Fz} {H H1 : Hp} {D : Ends} {D' : DEnds} (k : Ek F H D D') (e : Ext F H F1 H1) : Ek F1 H1 D D' := ⟨k.nx.step e, k.rt.step e, k.bk.step e, k.ct.step e⟩
def lE (t : DE) : TE := fun σ H Q => ∃ F s G Q', IsS F H s σ ∧ Hg F H G ∧ t s G Q' ∧ Kc F H Q Q'
def lT (t : DT) : TT := fun σ H Q => ∃ F s G Q', IsS F H s σ ∧ Hg F H G ∧ t s G Q' ∧ Kb F H Q Q'
def lA (t : DA) : TA := fun σ H Q => ∃ F s G Q', IsS F H s σ ∧ Hg F H G ∧ t s G Q' ∧ Ka F H Q Q'
def lS (t : DS) : TS := fun D σ H => ∃ F s G D', IsS F H s σ ∧ Hg F H G ∧ t D' s G ∧ Ek F H D D'
def lG (g : DG) : TG := fun v σ H Q => ∃ F s G d Q', IsS F H s σ ∧ Hg F H G ∧ Is F H d v ∧ g d s G Q' ∧ Ks F H Q Q'
def lGs (g : DGs) : TGs := fun vs σ H Q => ∃ F s G ds Q', IsS F H s σ ∧ Hg F H G ∧ IsL F H ds vs ∧ g ds s G Q' ∧ Ks F H Q Q'
abbrev QE (X : Cx) (e : Expr) (t : DE) : Prop := PE X e (lE t)
abbrev QT (X : Cx) (e : Expr) (t : DT) : Prop := PT X e (lT t)
abbrev QW (X : Cx) (e : Expr) (t : DT) : Prop := PW X e (lT t)
abbrev QA (X : Cx) (es : List Expr) (t : DA) : Prop := PA X es (lA t)
abbrev QS (X : Cx) (st : Stmt) (t : DS) : Prop := PS X st (lS t)
abbrev QSs (X : Cx) (b : List Stmt) (t : DS) : Prop := PSs X b (lS t)
abbrev QG (X : Cx) (e : Expr) (t : DG) : Prop := PG X e (lG t)
abbrev QGs (X : Cx) (e : List Expr) (t : DGs) : Prop := PGs X e (lGs t)
section
variable {X : Cx}
theorem PE.weak {e : Expr} {t t' : TE} (h : PE X e t) (k : ∀ σ H Q, t' σ H Q → t σ H Q) : PE X e t' := ⟨fun pins s σ H Q I z => h.run pins s σ H Q I (k σ H Q z)⟩
theorem PT.weak {e : Expr} {t t' : TT} (h : PT X e t) (k : ∀ σ H Q, t' σ H Q → t σ H Q) : PT X e t' := ⟨fun pins s σ H Q I z => h.run pins s σ H Q I (k σ H Q z)⟩
theorem PW.weak {e : Expr} {t t' : TT} (h : PW X e t) (k : ∀ σ H Q, t' σ H Q → t σ H Q) : PW X e t' := ⟨fun wh pins s σ H Q I z => h.run wh pins s σ H Q I (k σ H Q z)⟩
theorem PA.weak {e : List Expr} {t t' : TA} (h : PA X e t) (k : ∀ σ H Q, t' σ H Q → t σ H Q) : PA X e t' := ⟨fun pos pins s σ H Q I z => h.run pos pins s σ H Q I (k σ H Q z)⟩
theorem PS.weak {e : Stmt} {t t' : TS} (h : PS X e t) (k : ∀ D σ H, t' D σ H → t D σ H) : PS X e t' := ⟨fun pins s σ H D I z => h.run pins s σ H D I (k D σ H z)⟩
theorem PSs.weak {e : List Stmt} {t t' : TS} (h : PSs X e t) (k : ∀ D σ H, t' D σ H → t D σ H) : PSs X e t' := ⟨fun pins s σ H D I z => h.run pins s σ H D I (k D σ H z)⟩
theorem PG.weak {e : Expr} {t t' : TG} (h : PG X e t) (k : ∀ v σ H Q, t' v σ H Q → t v σ H Q) : PG X e t' := ⟨fun pins s σ H v u Q I r z => h.run pins s σ H v u Q I r (k v σ H Q z)⟩
theorem PGs.weak {e : List Expr} {t t' : TGs} (h : PGs X e t) (k : ∀ v σ H Q, t' v σ H Q → t v σ H Q) : PGs X e t' := ⟨fun pins s σ H v u Q I r z => h.run pins s σ H v u Q I r (k v σ H Q z)⟩
def dNo : DS := fun _ _ _ => False
theorem qs_no {st : Stmt} : QS X st dNo := ⟨fun _ _ _ _ _ _ h => by obtain ⟨_, _, _, _, _, _, z, _⟩ := h; exact z.elim⟩
def dVar (i : Nat) : DE := fun s G Q => ∃ d, s[i]? = some (some d) ∧ Q d G
def dC (d : D) : DE := fun _ G Q => Q d G
theorem lE_var {i : Nat} {σ : St} {H : Hp} {Q : VK} (h : lE (dVar i) σ H Q) : tVar i σ H Q := by
  obtain ⟨F, s, G, Q', hs, hg, ⟨d, e, q⟩, k⟩ := h
  obtain ⟨v, e2, i2⟩ := hs.2 i d e
  exact ⟨v, e2, k.fin hg i2 q⟩
theorem qe_var {i : Nat} {x : Str} {pos : Pos} (hN : X.N[i]? = some x) (hv : Vis X.env.scope x) (hd : (x == ("__debug__" : Str)) = false := by decide) (hcd : (x == ("__classdict__" : Str)) = false := by decide) : QE X (.Name x pos) (dVar i) :=
  PE.weak (pe_var hN hv hd hcd) fun _ _ _ h => lE_var h
theorem lE_c {d : D} {v : V} (hv : ∀ F H, Is F H d v) {σ : St} {H : Hp} {Q : VK} (h : lE (dC d) σ H Q) : tC v σ H Q := by
  obtain ⟨F, s, G, Q', hs, hg, q, k⟩ := h
  exact k.fin hg (hv F H) q
theorem qe_int {i : Int} {j pos} : QE X (.Constant (.int i) j pos) (dC (.int i)) := PE.weak pe_int fun _ _ _ h => lE_c (fun _ _ => is_int.mpr rfl) h
theorem qe_bl {b : Bool} {j pos} : QE X (.Constant (.bool b) j pos) (dC (.bl b)) := PE.weak pe_bl fun _ _ _ h => lE_c (fun _ _ => is_bl.mpr rfl) h
theorem qe_non {j pos} : QE X (.Constant .none j pos) (dC .non) := PE.weak pe_non fun _ _ _ h => lE_c (fun _ _ => is_non.mpr rfl) h
theorem qe_str {x : Str} {j pos} : QE X (.Constant (.str x) j pos) (dC (.str x)) := PE.weak pe_str fun _ _ _ h => lE_c (fun _ _ => is_str.mpr rfl) h
theorem qe_gint {x : Str} {pos : Pos} {i : Int} (hg : Gl X x) (hm : ∃ t, X.mg x = some (.int i t)) (hd : (x == ("__debug__" : Str)) = false := by decide) : QE X (.Name x pos) (dC (.int i)) := by
  obtain ⟨t, e⟩ := hm
  exact PE.weak (pe_glob (v := .int i) hg e ⟨t, rfl⟩ hd) fun _ _ _ h => lE_c (fun _ _ => is_int.mpr rfl) h
theorem lE_bind {t : DE} {te : TE} (ht : ∀ σ H Q, lE t σ H Q → te σ H Q) {σ : St} {s : DSt} {H : Hp} {F : Fz} {G : Gp} (hs : IsS F H s σ) (hg : Hg F H G) {Q : VK} {Q' : DK} (h : t s G Q') (k : ∀ v H' F' d G', Ext F H F' H' → IsS F' H' s σ → Hg F' H' G' → Is F' H' d v → Q' d G' → Q v H') : te σ H Q :=
  ht σ H Q ⟨F, s, G, Q', hs, hg, h, fun v H' F' d G' e g i q => k v H' F' d G' e (hs.mono e) g i q⟩
theorem lE_b {t : DE} {σ : St} {s : DSt} {H : Hp} {F : Fz} {G : Gp} (hs : IsS F H s σ) (hg : Hg F H G) {Q : VK} {Q' : DK} (h : t s G Q') (k : ∀ v H' F' d G', Ext F H F' H' → IsS F' H' s σ → Hg F' H' G' → Is F' H' d v → Q' d G' → Q v H') : lE t σ H Q :=
  ⟨F, s, G, Q', hs, hg, h, fun v H' F' d G' e g i q => k v H' F' d G' e (hs.mono e) g i q⟩
theorem lT_b {t : DT} {σ : St} {s : DSt} {H : Hp} {F : Fz} {G : Gp} (hs : IsS F H s σ) (hg : Hg F H G) {Q : Bool → Hp → Prop} {Q' : Bool → Gp → Prop} (h : t s G Q') (k : ∀ b H' F' G', Ext F H F' H' → IsS F' H' s σ → Hg F' H' G' → Q' b G' → Q b H') : lT t σ H Q :=
  ⟨F, s, G, Q', hs, hg, h, fun v H' F' G' e g q => k v H' F' G' e (hs.mono e) g q⟩
theorem lA_b {t : DA} {σ : St} {s : DSt} {H : Hp} {F : Fz} {G : Gp} (hs : IsS F H s σ) (hg : Hg F H G) {Q : List V → Hp → Prop} {Q' : List D → Gp → Prop} (h : t s G Q') (k : ∀ vs H' F' ds G', Ext F H F' H' → IsS F' H' s σ → Hg F' H' G' → IsL F' H' ds vs → Q' ds G' → Q vs H') : lA t σ H Q :=
  ⟨F, s, G, Q', hs, hg, h, fun v H' F' d G' e g i q => k v H' F' d G' e (hs.mono e) g i q⟩
abbrev DR2 := D → D → Gp → DK → Prop
def SR (r : R2) (r' : DR2) : Prop := ∀ F H G x y dx dy Q Q', Hg F H G → Is F H dx x → Is F H dy y → r' dx dy G Q' → Kc F H Q Q' → r x y H Q
def SC (r : List V → Hp → VK → Prop) (r' : List D → Gp → DK → Prop) : Prop := ∀ F H G xs ds Q Q', Hg F H G → IsL F H ds xs → r' ds G Q' → Kc F H Q Q' → r xs H Q
def SM (r : V → List V → Hp → VK → Prop) (r' : D → List D → Gp → DK → Prop) : Prop := ∀ F H G x xs d ds Q Q', Hg F H G → Is F H d x → IsL F H ds xs → r' d ds G Q' → Kc F H Q Q' → r x xs H Q
def dOp (r : DR2) (ta tb : DE) : DE := fun s G Q => ta s G fun x G1 => tb s G1 fun y G2 => r x y G2 Q
theorem lE_op {r : R2} {r' : DR2} (sr : SR r r') {ta tb : DE} {σ : St} {H : Hp} {Q : VK} (h : lE (dOp r' ta tb) σ H Q) : tOp r (lE ta) (lE tb) σ H Q := by
  obtain ⟨F, s, G, Q', hs, hg, h, k⟩ := h
  refine lE_b hs hg h fun x H1 F1 dx G1 e1 s1 g1 i1 h1 => ?_
  refine lE_b s1 g1 h1 fun y H2 F2 dy G2 e2 s2 g2 i2 h2 => ?_
  exact sr F2 H2 G2 x y dx dy Q Q' g2 (i1.mono e2) i2 h2 (k.step (e1.trans e2))
theorem qe_op {a b : Expr} {op : Operator} {pos : Pos} {r : R2} {r' : DR2} {ta tb : DE} (ho : OpR X (binaryOp op) r) (sr : SR r r') (ha : QE X a ta) (hb : QE X b tb) : QE X (.BinOp a op b pos) (dOp r' ta tb) :=
  PE.weak (pe_op ho ha hb) fun _ _ _ h => lE_op sr h
theorem qe_cmp {a b : Expr} {op : CmpOp} {pos : Pos} {r : R2} {r' : DR2} {ta tb : DE} (ho : OpR X (compareOp op) r) (sr : SR r r') (ha : QE X a ta) (hb : QE X b tb) (hm : behindInMarks op b = false := by rfl) : QE X (.Compare a [op] [b] pos) (dOp r' ta tb) :=
  PE.weak (pe_cmpR ho ha hb hm) fun _ _ _ h => lE_op sr h
theorem qe_ix {a b : Expr} {pos : Pos} {r : R2} {r' : DR2} {ta tb : DE} (hr : IxR X r) (sr : SR r r') (ha : QE X a ta) (hb : QE X b tb) (hs : PlainIx b := by exact fun _ _ => rfl) : QE X (.Subscript a b pos) (dOp r' ta tb) :=
  PE.weak (pe_ix hr ha hb hs) fun _ _ _ h => lE_op sr h
/-- ints to a value -/
def eI (C : Int → Int → Prop) (g : Int → Int → D) : DR2 := fun x y G Q => ∃ i j, x = .int i ∧ y = .int j ∧ C i j ∧ Q (g i j) G
def eI0 (g : Int → Int → D) : DR2 := fun x y G Q => ∃ i j, x = .int i ∧ y = .int j ∧ Q (g i j) G
theorem sr_I {C : Int → Int → Prop} {g : Int → Int → V} {g' : Int → Int → D} (hg : ∀ i j F H, Is F H (g' i j) (g i j)) : SR (rI C g) (eI C g') := by
  rintro F H G x y dx dy Q Q' hG ix iy ⟨i, j, rfl, rfl, c, q⟩ k
  exact ⟨i, j, is_int.mp ix, is_int.mp iy, c, k.fin hG (hg i j F H) q⟩
theorem sr_I0 {g : Int → Int → V} {g' : Int → Int → D} (hg : ∀ i j F H, Is F H (g' i j) (g i j)) : SR (rI0 g) (eI0 g') := by
  rintro F H G x y dx dy Q Q' hG ix iy ⟨i, j, rfl, rfl, q⟩ k
  exact ⟨i, j, is_int.mp ix, is_int.mp iy, k.fin hG (hg i j F H) q⟩
def eAdd : DR2 := eI0 fun i j => .int (i + j)
def eSub : DR2 := eI0 fun i j => .int (i - j)
def eLt : DR2 := eI0 fun i j => .bl (decide (i < j))
def eLe : DR2 := eI0 fun i j => .bl (decide (i ≤ j))
def eGt : DR2 := eI0 fun i j => .bl (decide (j < i))
def eGe : DR2 := eI0 fun i j => .bl (decide (j ≤ i))
/-- == of numbers, of texts -/
def eqS : D → D → Option Bool
  | .int i, .int j => some (decide (i = j))
  | .str x, .str y => some (decide (x = y))
  | .bl x, .bl y => some (decide (x = y))
  | _, _ => none
def eEq : DR2 := fun x y G Q => ∃ b, eqS x y = some b ∧ Q (.bl b) G
def eNe : DR2 := fun x y G Q => ∃ b, eqS x y = some b ∧ Q (.bl (!b)) G
theorem eqS_ok {F : Fz} {H : Hp} {dx dy : D} {x y : V} {b : Bool} (ix : Is F H dx x) (iy : Is F H dy y) (e : eqS dx dy = some b) : scal x y = true ∧ decide (x = y) = b := by
  cases dx with
  | int i => cases dy with
    | int j =>
      rw [is_int.mp ix, is_int.mp iy]
      have e : some (decide (i = j)) = some b := e
      refine ⟨rfl, ?_⟩
      rw [← Option.some.inj e]
      by_cases h : i = j
      · rw [decide_eq_true h, decide_eq_true (by rw [h])]
      · rw [decide_eq_false h, decide_eq_false (fun z => h (V.int.inj z))]
    | _ => cases e
  | str i => cases dy with
    | str j =>
      rw [is_str.mp ix, is_str.mp iy]
      have e : some (decide (i = j)) = some b := e
      refine ⟨rfl, ?_⟩
      rw [← Option.some.inj e]
      by_cases h : i = j
      · rw [decide_eq_true h, decide_eq_true (by rw [h])]
      · rw [decide_eq_false h, decide_eq_false (fun z => h (V.str.inj z))]
    | _ => cases e
  | bl i => cases dy with
    | bl j =>
      rw [is_bl.mp ix, is_bl.mp iy]
      have e : some (decide (i = j)) = some b := e
      refine ⟨rfl, ?_⟩
      rw [← Option.some.inj e]
      by_cases h : i = j
      · rw [decide_eq_true h, decide_eq_true (by rw [h])]
      · rw [decide_eq_false h, decide_eq_false (fun z => h (V.bl.inj z))]
    | _ => cases e
  | _ => cases dy <;> cases e
theorem sr_eq : SR rEq eEq := by
  rintro F H G x y dx dy Q Q' hG ix iy ⟨b, e, q⟩ k
  obtain ⟨h1, h2⟩ := eqS_ok ix iy e
  exact ⟨h1, by rw [h2]; exact k.fin hG (is_bl.mpr rfl) q⟩
theorem sr_ne : SR rNe eNe := by
  rintro F H G x y dx dy Q Q' hG ix iy ⟨b, e, q⟩ k
  obtain ⟨h1, h2⟩ := eqS_ok ix iy e
  exact ⟨h1, by rw [h2]; exact k.fin hG (is_bl.mpr rfl) q⟩
def lstG : Option GO → Option (List D)
  | some (.sm (.lst ds)) => some ds
  | _ => none
def lstOf (G : Gp) : D → Option (List D)
  | .lst ds => some ds
  | .ref p => lstG (G p)
  | _ => none
theorem lst_ref {G : Gp} {p : Addr} {ds : List D} (h : G p = some (.sm (.lst ds))) : lstOf G (.ref p) = some ds := by
  show lstG (G p) = some ds
  rw [h]
  rfl
theorem lst_own {G : Gp} {p : Addr} {ds : List D} (h : lstG (G p) = some ds) : G p = some (.sm (.lst ds)) := by
  cases q : G p with
  | none =>
    rw [q] at h
    cases h
  | some x =>
    rw [q] at h
    cases x with
    | cmp L => cases h
    | sm o =>
      cases o with
      | lst es =>
        cases (show some es = some ds from h)
        rfl
      | _ => cases h
theorem lstOf_ok {F : Fz} {H : Hp} {G : Gp} (hG : Hg F H G) {d : D} {v : V} {ds : List D} (i : Is F H d v) (e : lstOf G d = some ds) : ∃ a vs, v = .ref a ∧ H a = some (.lst vs) ∧ IsL F H ds vs := by
  cases d with
  | lst es =>
    obtain ⟨a, vs, h1, h2, h3, h4⟩ := is_lst.mp i
    cases (show some es = some ds from e)
    exact ⟨a, vs, h1, h3, h4⟩
  | ref p =>
    obtain ⟨z, hz, vs, rfl, hl⟩ := hG.get (lst_own e)
    exact ⟨p, vs, is_ref.mp i, hz, hl⟩
  | _ => cases e
/-- xs[i] -/
def eIxL : DR2 := fun x y G Q => ∃ ds i d, lstOf G x = some ds ∧ y = .int i ∧ atI ds i = some d ∧ Q d G
def eIxT : DR2 := fun x y G Q => ∃ ds i d, x = .tup ds ∧ y = .int i ∧ atI ds i = some d ∧ Q d G
theorem atI_rel {F : Fz} {H : Hp} {ds : List D} {vs : List V} {i : Int} {d : D} (h : IsL F H ds vs) (e : atI ds i = some d) : ∃ v, atI vs i = some v ∧ Is F H d v := by
  unfold atI at e ⊢
  rw [h.length]
  cases q : ixN ds.length i with
  | none =>
    rw [q] at e
    cases e
  | some j =>
    rw [q] at e
    exact h.get e
end
end Dg
namespace Dg
open PySem PySem.Spec L2
section
variable {X : Cx}
def dTest (t : DE) : DT := fun s G Q => t s G fun x G1 => ∃ b, x = .bl b ∧ Q b G1
theorem lT_test {t : DE} {te : TE} (ht : ∀ σ H Q, lE t σ H Q → te σ H Q) {σ : St} {H : Hp} {Q : Bool → Hp → Prop} (h : lT (dTest t) σ H Q) : tTest te σ H Q := by
  obtain ⟨F, s, G, Q', hs, hg, h, k⟩ := h
  refine lE_bind ht hs hg h fun v H1 F1 d G1 e1 s1 g1 i1 ⟨b, eb, q⟩ => ?_
  subst eb
  exact ⟨b, is_bl.mp i1, k b H1 F1 G1 e1 g1 q⟩
theorem qt_val {e : Expr} {t : DE} (h : QE X e t) (he : ∀ whole, isTrue e X.env whole = (do let v ← whole; standAt e.pos; holding [v] (truthy v)) := by intro _; rfl) : QT X e (dTest t) :=
  PT.weak (pt_val h he) fun σ H Q z => lT_test (fun _ _ _ z => z) z
theorem qt_cmp {a b : Expr} {op : CmpOp} {pos : Pos} {r : R2} {r' : DR2} {ta tb : DE} (ho : OpR X (compareOp op) r) (sr : SR r r') (ha : QE X a ta) (hb : QE X b tb) (hm : behindInMarks op b = false := by rfl) : QT X (.Compare a [op] [b] pos) (dTest (dOp r' ta tb)) :=
  PT.weak (pt_cmpR ho ha hb hm) fun σ H Q z => lT_test (fun _ _ _ z => lE_op sr z) z
def dChain (r r' : DR2) (ta tb tc : DE) : DE := fun s G Q => ta s G fun x G1 => tb s G1 fun y G2 => r x y G2 fun z G3 => ∃ k, z = .bl k ∧ (if k = true then tc s G3 fun w G4 => r' y w G4 Q else Q (.bl false) G3)
theorem lE_chain {r1 r2 : R2} {r1' r2' : DR2} (sr1 : SR r1 r1') (sr2 : SR r2 r2') {ta tb tc : DE} {σ : St} {H : Hp} {Q : VK} (h : lE (dChain r1' r2' ta tb tc) σ H Q) : tChain r1 r2 (lE ta) (lE tb) (lE tc) σ H Q := by
  obtain ⟨F, s, G, Q', hs, hg, h, k⟩ := h
  refine lE_b hs hg h fun x H1 F1 dx G1 e1 s1 g1 i1 h1 => ?_
  refine lE_b s1 g1 h1 fun y H2 F2 dy G2 e2 s2 g2 i2 h2 => ?_
  refine sr1 F2 H2 G2 x y dx dy _ _ g2 (i1.mono e2) i2 h2 fun v H3 F3 d G3 e3 g3 i3 ⟨b, eb, q⟩ => ?_
  subst eb
  refine ⟨b, is_bl.mp i3, ?_⟩
  cases b with
  | false =>
    have q : Q' (.bl false) G3 := q
    show Q (.bl false) H3
    exact k _ _ F3 _ G3 ((e1.trans e2).trans e3) g3 (is_bl.mpr rfl) q
  | true =>
    have q : tc s G3 fun w G4 => r2' dy w G4 Q' := q
    show lE tc σ H3 fun w' H4 => r2 y w' H4 Q
    refine lE_b (s2.mono e3) g3 q fun w H4 F4 dw G4 e4 s4 g4 i4 h4 => ?_
    exact sr2 F4 H4 G4 y w dy dw Q Q' g4 (i2.mono (e3.trans e4)) i4 h4 (k.step (((e1.trans e2).trans e3).trans e4))
theorem qe_chain {a b c : Expr} {op op' : CmpOp} {pos : Pos} {r r1 : R2} {r' r1' : DR2} {ta tb tc : DE} (ho : OpR X (compareOp op) r) (sr : SR r r') (ho' : OpR X (compareOp op') r1) (sr' : SR r1 r1') (ha : QE X a ta) (hb : QE X b tb) (hc : QE X c tc)
    (hm : lastMarks [op, op'] [b, c] = false := by with_unfolding_all rfl) : QE X (.Compare a [op, op'] [b, c] pos) (dChain r' r1' ta tb tc) :=
  PE.weak (pe_chain ho ho' ha hb hc hm) fun _ _ _ h => lE_chain sr sr' h
theorem qt_chain {a b c : Expr} {op op' : CmpOp} {pos : Pos} {r r1 : R2} {r' r1' : DR2} {ta tb tc : DE} (ho : OpR X (compareOp op) r) (sr : SR r r') (ho' : OpR X (compareOp op') r1) (sr' : SR r1 r1') (ha : QE X a ta) (hb : QE X b tb) (hc : QE X c tc)
    (hm : lastMarks [op, op'] [b, c] = false := by with_unfolding_all rfl) : QT X (.Compare a [op, op'] [b, c] pos) (dTest (dChain r' r1' ta tb tc)) :=
  PT.weak (pt_chain ho ho' ha hb hc hm) fun σ H Q z => lT_test (fun _ _ _ z => lE_chain sr sr' z) z
/-- is None -/
def isN : D → Bool
  | .non => true
  | _ => false
theorem isN_ok {F : Fz} {H : Hp} {d : D} {v : V} (i : Is F H d v) : decide (v = .non) = isN d := by
  cases d with
  | non => rw [is_non.mp i]; rfl
  | bl b => rw [is_bl.mp i]; rfl
  | int b => rw [is_int.mp i]; rfl
  | str b => rw [is_str.mp i]; rfl
  | ref b => rw [is_ref.mp i]; rfl
  | tup b => obtain ⟨a, vs, h1, _⟩ := is_tup.mp i; rw [h1]; rfl
  | lst b => obtain ⟨a, vs, h1, _⟩ := is_lst.mp i; rw [h1]; rfl
def dIsN (t : DE) : DE := fun s G Q => t s G fun x G1 => Q (.bl (isN x)) G1
def dNotN (t : DE) : DE := fun s G Q => t s G fun x G1 => Q (.bl (!isN x)) G1
theorem lE_isN {t : DE} {σ : St} {H : Hp} {Q : VK} (h : lE (dIsN t) σ H Q) : tIsN (lE t) σ H Q := by
  obtain ⟨F, s, G, Q', hs, hg, h, k⟩ := h
  refine lE_b hs hg h fun v H1 F1 d G1 e1 s1 g1 i1 q => ?_
  show Q (.bl (decide (v = .non))) H1
  rw [isN_ok i1]
  exact k _ _ F1 _ G1 e1 g1 (is_bl.mpr rfl) q
theorem lE_notN {t : DE} {σ : St} {H : Hp} {Q : VK} (h : lE (dNotN t) σ H Q) : tNotN (lE t) σ H Q := by
  obtain ⟨F, s, G, Q', hs, hg, h, k⟩ := h
  refine lE_b hs hg h fun v H1 F1 d G1 e1 s1 g1 i1 q => ?_
  show Q (.bl (!decide (v = .non))) H1
  rw [isN_ok i1]
  exact k _ _ F1 _ G1 e1 g1 (is_bl.mpr rfl) q
theorem tB_test {te : TE} {σ : St} {H : Hp} {Q : Bool → Hp → Prop} (h : tTest te σ H Q) : tB te σ H Q := h
theorem qt_isN {a : Expr} {j pos pos'} {t : DE} (h : QE X a t) : QT X (.Compare a [.Is] [.Constant .none j pos'] pos) (dTest (dIsN t)) := PT.weak (pt_cmp (pc_isN h)) fun _ _ _ z => tB_test (lT_test (fun _ _ _ z => lE_isN z) z)
theorem qt_notN {a : Expr} {j pos pos'} {t : DE} (h : QE X a t) : QT X (.Compare a [.IsNot] [.Constant .none j pos'] pos) (dTest (dNotN t)) := PT.weak (pt_cmp (pc_notN h)) fun _ _ _ z => tB_test (lT_test (fun _ _ _ z => lE_notN z) z)
/-- and, or, not -/
def dAnd (t u : DT) : DT := fun s G Q => t s G fun c G1 => if c = true then u s G1 Q else Q false G1
def dOr (t u : DT) : DT := fun s G Q => t s G fun c G1 => if c = true then Q true G1 else u s G1 Q
def dNot (t : DT) : DT := fun s G Q => t s G fun c G1 => Q (!c) G1
theorem lT_and {t u : DT} {σ : St} {H : Hp} {Q : Bool → Hp → Prop} (h : lT (dAnd t u) σ H Q) : tAnd (lT t) (lT u) σ H Q := by
  obtain ⟨F, s, G, Q', hs, hg, h, k⟩ := h
  refine lT_b hs hg h fun b H1 F1 G1 e1 s1 g1 q => ?_
  cases b with
  | true => exact lT_b s1 g1 (show u s G1 Q' from q) fun c H2 F2 G2 e2 s2 g2 q2 => k c H2 F2 G2 (e1.trans e2) g2 q2
  | false => exact k false H1 F1 G1 e1 g1 q
theorem lT_or {t u : DT} {σ : St} {H : Hp} {Q : Bool → Hp → Prop} (h : lT (dOr t u) σ H Q) : tOr (lT t) (lT u) σ H Q := by
  obtain ⟨F, s, G, Q', hs, hg, h, k⟩ := h
  refine lT_b hs hg h fun b H1 F1 G1 e1 s1 g1 q => ?_
  cases b with
  | false => exact lT_b s1 g1 (show u s G1 Q' from q) fun c H2 F2 G2 e2 s2 g2 q2 => k c H2 F2 G2 (e1.trans e2) g2 q2
  | true => exact k true H1 F1 G1 e1 g1 q
theorem lT_not {t : DT} {σ : St} {H : Hp} {Q : Bool → Hp → Prop} (h : lT (dNot t) σ H Q) : tNot (lT t) σ H Q := by
  obtain ⟨F, s, G, Q', hs, hg, h, k⟩ := h
  exact lT_b hs hg h fun b H1 F1 G1 e1 s1 g1 q => k (!b) H1 F1 G1 e1 g1 q
theorem qw_and1 {a : Expr} {pos : Pos} {t : DT} (h : QT X a t) : QW X (.BoolOp .And [a] pos) t := pw_and1 h
theorem qw_or1 {a : Expr} {pos : Pos} {t : DT} (h : QT X a t) : QW X (.BoolOp .Or [a] pos) t := pw_or1 h
theorem qw_and {a b : Expr} {rest : List Expr} {pos : Pos} {t u : DT} (ha : QT X a t) (hb : QW X (.BoolOp .And (b :: rest) pos) u) : QW X (.BoolOp .And (a :: b :: rest) pos) (dAnd t u) := PW.weak (pw_and ha hb) fun _ _ _ z => lT_and z
theorem qw_or {a b : Expr} {rest : List Expr} {pos : Pos} {t u : DT} (ha : QT X a t) (hb : QW X (.BoolOp .Or (b :: rest) pos) u) : QW X (.BoolOp .Or (a :: b :: rest) pos) (dOr t u) := PW.weak (pw_or ha hb) fun _ _ _ z => lT_or z
theorem qt_w {e : Expr} {t : DT} (h : QW X e t) : QT X e t := h.pt
theorem qt_not {a : Expr} {pos : Pos} {t : DT} (h : QT X a t) : QT X (.UnaryOp .Not a pos) (dNot t) := PT.weak (pt_not h) fun _ _ _ z => lT_not z
def dAndV (ta tb : DE) : DE := fun s G Q => ta s G fun x G1 => ∃ c, x = .bl c ∧ if c = true then tb s G1 Q else Q (.bl false) G1
def dOrV (ta tb : DE) : DE := fun s G Q => ta s G fun x G1 => ∃ c, x = .bl c ∧ if c = true then Q (.bl true) G1 else tb s G1 Q
def dNotV (ta : DE) : DE := fun s G Q => ta s G fun x G1 => ∃ c, x = .bl c ∧ Q (.bl (!c)) G1
theorem qe_one {op} {a : Expr} {pos : Pos} {t : DE} (h : QE X a t) : QE X (.BoolOp op [a] pos) t := pe_one h
theorem qe_and {a b : Expr} {rest : List Expr} {pos : Pos} {ta tb : DE} (ha : QE X a ta) (hb : QE X (.BoolOp .And (b :: rest) pos) tb) : QE X (.BoolOp .And (a :: b :: rest) pos) (dAndV ta tb) := PE.weak (pe_and ha hb) fun σ H Q h => by
  obtain ⟨F, s, G, Q', hs, hg, h, k⟩ := h
  refine lE_b hs hg h fun v H1 F1 d G1 e1 s1 g1 i1 ⟨c, ec, q⟩ => ?_
  subst ec
  refine ⟨c, is_bl.mp i1, ?_⟩
  cases c with
  | true => exact lE_b s1 g1 (show tb s G1 Q' from q) fun w H2 F2 d2 G2 e2 s2 g2 i2 q2 => k w H2 F2 d2 G2 (e1.trans e2) g2 i2 q2
  | false => exact k _ H1 F1 _ G1 e1 g1 (is_bl.mpr rfl) q
def dIf (t : DT) (ta tb : DE) : DE := fun s G Q => t s G fun c G1 => if c = true then ta s G1 Q else tb s G1 Q
theorem qe_ifExp {c a b : Expr} {pos : Pos} {t : DT} {ta tb : DE} (hc : QT X c t) (ha : QE X a ta) (hb : QE X b tb) : QE X (.IfExp c a b pos) (dIf t ta tb) := PE.weak (pe_ifExp hc ha hb) fun σ H Q h => by
  obtain ⟨F, s, G, Q', hs, hg, h, k⟩ := h
  refine lT_b hs hg h fun c H1 F1 G1 e1 s1 g1 q => ?_
  cases c with
  | true => exact lE_b s1 g1 (show ta s G1 Q' from q) fun w H2 F2 d2 G2 e2 s2 g2 i2 q2 => k w H2 F2 d2 G2 (e1.trans e2) g2 i2 q2
  | false => exact lE_b s1 g1 (show tb s G1 Q' from q) fun w H2 F2 d2 G2 e2 s2 g2 i2 q2 => k w H2 F2 d2 G2 (e1.trans e2) g2 i2 q2
def dNil : DA := fun _ G Q => Q [] G
def dCons (ta : DE) (tr : DA) : DA := fun s G Q => ta s G fun x G1 => tr s G1 fun xs G2 => Q (x :: xs) G2
theorem qa_nil : QA X [] dNil := PA.weak pa_nil fun σ H Q h => by
  obtain ⟨F, s, G, Q', hs, hg, h, k⟩ := h
  exact k [] H F [] G (Ext.refl F H) hg IsL.nil h
theorem qa_cons {e : Expr} {es : List Expr} {te : DE} {t : DA} (ha : QE X e te) (hr : QA X es t) (hs : starEach (e :: es) X.env = (false, eval e X.env) :: starEach es X.env := by rfl) : QA X (e :: es) (dCons te t) := PA.weak (pa_cons ha hr hs) fun σ H Q h => by
  obtain ⟨F, s, G, Q', hs, hg, h, k⟩ := h
  refine lE_b hs hg h fun v H1 F1 d G1 e1 s1 g1 i1 h1 => ?_
  refine lA_b s1 g1 h1 fun vs H2 F2 ds G2 e2 s2 g2 i2 q2 => ?_
  exact k _ H2 F2 _ G2 (e1.trans e2) g2 (IsL.cons (i1.mono e2) i2) q2
theorem sz_ok {n : Nat} (h : n ≤ 100000) : n ≤ sizeLine := Nat.le_trans h (by decide)
theorem sz_lt {n : Nat} (h : n < 100000) : n < sizeLine := Nat.lt_of_lt_of_le h (by decide)
def dTup (t : DA) : DE := fun s G Q => t s G fun ds G1 => ds.length ≤ 100000 ∧ Q (.tup ds) G1
def dLst (t : DA) : DE := fun s G Q => t s G fun ds G1 => ds.length ≤ 100000 ∧ ∀ p, G1 p = none → Q (.ref p) (ud G1 p (.sm (.lst ds)))
theorem fin_tup {F : Fz} {H : Hp} {G : Gp} (hg : Hg F H G) {ds : List D} {vs : List V} (hl : IsL F H ds vs) {p : Addr} (hp : H p = none) : Ext F H F (upd H p (.tup vs)) ∧ Hg F (upd H p (.tup vs)) G ∧ Is F (upd H p (.tup vs)) (.tup ds) (.ref p) := by
  have ex : Ext F H F (upd H p (.tup vs)) := ext_new hg.fok hp
  exact ⟨ex, hg.newT hp, is_tup.mpr ⟨p, vs, rfl, upd_same, hl.mono ex⟩⟩
theorem fin_lst {F : Fz} {H : Hp} {G : Gp} (hg : Hg F H G) {ds : List D} {vs : List V} (hl : IsL F H ds vs) {p : Addr} (hp : H p = none) : Ext F H F (upd H p (.lst vs)) ∧ Hg F (upd H p (.lst vs)) (ud G p (.sm (.lst ds))) := by
  have ex : Ext F H F (upd H p (.lst vs)) := ext_new hg.fok hp
  exact ⟨ex, hg.new hp ⟨vs, rfl, hl.mono ex⟩⟩
/-- a new list comes -/
theorem Kc.newL {F : Fz} {H : Hp} {Q : VK} {Q' : DK} {G : Gp} (k : Kc F H Q Q') (hg : Hg F H G) {ds : List D} {vs : List V} (hl : IsL F H ds vs) (q : ∀ p, G p = none → Q' (.ref p) (ud G p (.sm (.lst ds)))) : ∀ p, H p = none → Q (.ref p) (upd H p (.lst vs)) := fun p hp => by
  obtain ⟨ex, g2⟩ := fin_lst hg hl hp
  exact k _ _ F _ _ ex g2 (is_ref.mpr rfl) (q p (hg.fresh hp))
theorem Kc.newT {F : Fz} {H : Hp} {Q : VK} {Q' : DK} {G : Gp} (k : Kc F H Q Q') (hg : Hg F H G) {ds : List D} {vs : List V} (hl : IsL F H ds vs) (q : Q' (.tup ds) G) : ∀ p, H p = none → Q (.ref p) (upd H p (.tup vs)) := fun p hp => by
  obtain ⟨ex, g2, i2⟩ := fin_tup hg hl hp
  exact k _ _ F _ _ ex g2 i2 q
theorem qe_tup {es : List Expr} {x1} {pos : Pos} {t : DA} (h : QA X es t) : QE X (.Tuple es x1 pos) (dTup t) := PE.weak (pe_tup h) fun σ H Q h => by
  obtain ⟨F, s, G, Q', hs, hg, h, k⟩ := h
  refine lA_b hs hg h fun vs H1 F1 ds G1 e1 s1 g1 i1 ⟨hz, q⟩ => ⟨by rw [i1.length]; exact sz_ok hz, (k.step e1).newT g1 i1 q⟩
theorem qe_lst {es : List Expr} {pos : Pos} {t : DA} (h : QA X es t) : QE X (.List es pos) (dLst t) := PE.weak (pe_lst h) fun σ H Q h => by
  obtain ⟨F, s, G, Q', hs, hg, h, k⟩ := h
  refine lA_b hs hg h fun vs H1 F1 ds G1 e1 s1 g1 i1 ⟨hz, q⟩ => ⟨by rw [i1.length]; exact sz_ok hz, (k.step e1).newL g1 i1 q⟩
abbrev DSp := List D → Gp → DK → Prop
def lSp (sp : DSp) : Sp := fun vs H Q _ => ∃ F ds G Q', IsL F H ds vs ∧ Hg F H G ∧ sp ds G Q' ∧ Kc F H Q Q'
def dCall (sp : DSp) (t : DA) : DE := fun s G Q => t s G fun ds G1 => sp ds G1 Q
theorem lE_call {sp : DSp} {t : DA} {E : XK} {σ : St} {H : Hp} {Q : VK} (h : lE (dCall sp t) σ H Q) : tCall (lSp sp) [] E (lA t) σ H Q := by
  obtain ⟨F, s, G, Q', hs, hg, h, k⟩ := h
  refine lA_b hs hg h fun vs H1 F1 ds G1 e1 s1 g1 i1 q => ?_
  show lSp sp (vs ++ []) H1 Q E
  rw [List.append_nil]
  exact ⟨F1, ds, G1, Q', i1, g1, q, k.step e1⟩
theorem qe_call {x : Str} {p pos : Pos} {e : Expr} {es : List Expr} {k : Nat} {f : Addr} {fd : FuncData} {ps : List Str} {sp : DSp} {t : DA} (F : FnOk X.prog X.w X.K X.mg X.base CX0 k f fd ps (lSp sp)) (hr : Room k X.A) (hg : Gl X x) (hm : X.mg x = some (.ref f)) (hk : PySem.W.keepIn X.K (.ref f) = true) (hb : Binds X.K fd ps [])
    (ha : QA X (e :: es) t) (hd : (x == ("__debug__" : Str)) = false := by decide) (hs : starEach (e :: es) X.env = (false, eval e X.env) :: starEach es X.env := by rfl) (hpl : (backTo pos (starEach es X.env)).any (·.1) = false := by rfl) :
    QE X (.Call (.Name x p) (e :: es) [] pos) (dCall sp t) := PE.weak (pe_call F hr hg hm hk hb .nil pass0 ha hd hs hpl) fun _ _ _ z => lE_call z
def dCB (r : List D → Gp → DK → Prop) (t : DA) : DE := fun s G Q => t s G fun ds G1 => r ds G1 Q
theorem lE_cb {r : List V → Hp → VK → Prop} {r' : List D → Gp → DK → Prop} (sc : SC r r') {t : DA} {σ : St} {H : Hp} {Q : VK} (h : lE (dCB r' t) σ H Q) : tCB r (lA t) σ H Q := by
  obtain ⟨F, s, G, Q', hs, hg, h, k⟩ := h
  exact lA_b hs hg h fun vs H1 F1 ds G1 e1 s1 g1 i1 q => sc F1 H1 G1 vs ds Q Q' g1 i1 q (k.step e1)
theorem qe_callB {x : Str} {p pos : Pos} {e : Expr} {es : List Expr} {id : String} {r : List V → Hp → VK → Prop} {r' : List D → Gp → DK → Prop} {t : DA} (hc : CallR X (.builtin id) r) (sc : SC r r') (hg : Gl X x) (hm : X.mg x = none) (hv : bootBuiltins x = some (.builtin id)) (ha : QA X (e :: es) t)
    (hn : x ≠ "__name__" := by decide) (hdb : (x == ("__debug__" : Str)) = false := by decide) (hs : starEach (e :: es) X.env = (false, eval e X.env) :: starEach es X.env := by rfl) (hpl : (backTo pos (starEach es X.env)).any (·.1) = false := by rfl) :
    QE X (.Call (.Name x p) (e :: es) [] pos) (dCB r' t) := PE.weak (pe_callB hc hg hm hv ha hn hdb hs hpl) fun _ _ _ z => lE_cb sc z
theorem qe_callTy {x : Str} {p pos : Pos} {e : Expr} {es : List Expr} {T : String} {r : List V → Hp → VK → Prop} {r' : List D → Gp → DK → Prop} {t : DA} (hc : CallR X (.type T) r) (sc : SC r r') (hg : Gl X x) (hm : X.mg x = none) (hv : bootBuiltins x = some (.type T)) (ha : QA X (e :: es) t)
    (hn : x ≠ "__name__" := by decide) (hdb : (x == ("__debug__" : Str)) = false := by decide) (hs : starEach (e :: es) X.env = (false, eval e X.env) :: starEach es X.env := by rfl) (hpl : (backTo pos (starEach es X.env)).any (·.1) = false := by rfl) :
    QE X (.Call (.Name x p) (e :: es) [] pos) (dCB r' t) := PE.weak (pe_callTy hc hg hm hv ha hn hdb hs hpl) fun _ _ _ z => lE_cb sc z
def VS (s : DSt) (G : Gp) (s' : DSt) (G' : Gp) : Prop := ∀ F H σ, IsS F H s σ → Hg F H G → ∃ F', Ext F H F' H ∧ IsS F' H s' σ ∧ Hg F' H G'
def VS1 (d : D) (G : Gp) (d' : D) (G' : Gp) : Prop := ∀ F H v, Is F H d v → Hg F H G → ∃ F', Ext F H F' H ∧ Is F' H d' v ∧ Hg F' H G'
theorem VS.refl {s : DSt} {G : Gp} : VS s G s G := fun F H _ i g => ⟨F, Ext.refl F H, i, g⟩
theorem VS1.refl {d : D} {G : Gp} : VS1 d G d G := fun F H _ i g => ⟨F, Ext.refl F H, i, g⟩
theorem VS.trans {s s1 s2 : DSt} {G G1 G2 : Gp} (a : VS s G s1 G1) (b : VS s1 G1 s2 G2) : VS s G s2 G2 := fun F H σ i g => by
  obtain ⟨F1, e1, i1, g1⟩ := a F H σ i g
  obtain ⟨F2, e2, i2, g2⟩ := b F1 H σ i1 g1
  exact ⟨F2, e1.trans e2, i2, g2⟩
theorem VS.sub {s : DSt} {G G' : Gp} (k : ∀ a x, G' a = some x → G a = some x) : VS s G s G' := fun F H _ i g => ⟨F, Ext.refl F H, i, g.mono k⟩
theorem VS1.sub {d : D} {G G' : Gp} (k : ∀ a x, G' a = some x → G a = some x) : VS1 d G d G' := fun F H _ i g => ⟨F, Ext.refl F H, i, g.mono k⟩
/-- what was new is forgotten -/
theorem sub_new {G G2 : Gp} {p : Addr} {g : GO} (h : G p = none) (k : ∀ a x, G2 a = some x → G a = some x) : ∀ a x, G2 a = some x → ud G p g a = some x := fun a x e => by
  have z := k a x e
  rw [ud_ne (fun q => by rw [q, h] at z; cases z)]
  exact z
theorem sub_refl {G : Gp} : ∀ a x, G a = some x → G a = some x := fun _ _ h => h
theorem VS1.frz {G : Gp} {p : Addr} {ds : List D} (h : G p = some (.sm (.lst ds))) : VS1 (.ref p) G (.lst ds) (er G p) := fun F H v i g => by
  obtain ⟨e1, g1, i1⟩ := g.freeze h
  rw [is_ref.mp i]
  exact ⟨_, e1, i1, g1⟩
/-- a list in a slot is given up -/
theorem VS.frz {s : DSt} {G : Gp} {p : Addr} {ds : List D} {j : Nat} (h : G p = some (.sm (.lst ds))) (hj : s[j]? = some (some (.ref p))) : VS s G (s.set j (some (.lst ds))) (er G p) := fun F H σ i g => by
  obtain ⟨e1, g1, i1⟩ := g.freeze h
  refine ⟨_, e1, ?_, g1⟩
  obtain ⟨v, hv, iv⟩ := i.2 j _ hj
  rw [is_ref.mp iv] at hv
  have z := (i.mono e1).set j i1
  have e : σ.set j (some (.ref p)) = σ := by
    refine List.ext_getElem? fun m => ?_
    by_cases hm : j = m
    · subst hm
      by_cases hl : j < σ.length
      · rw [List.getElem?_set_self hl, hv]
      · rw [List.getElem?_eq_none (by omega)] at hv
        cases hv
    · rw [List.getElem?_set_ne hm]
  rw [e] at z
  exact z
def vN (N : DSt → Gp → Prop) : DSt → Gp → Prop := fun s G => ∀ F H σ, IsS F H s σ → Hg F H G → ∃ F' s' G', Ext F H F' H ∧ IsS F' H s' σ ∧ Hg F' H G' ∧ N s' G'
def vR (Q : DK) : DK := fun d G => ∀ F H v, Is F H d v → Hg F H G → ∃ F' d' G', Ext F H F' H ∧ Is F' H d' v ∧ Hg F' H G' ∧ Q d' G'
theorem vN_vs {N : DSt → Gp → Prop} {s s' : DSt} {G G' : Gp} (v : VS s G s' G') (h : N s' G') : vN N s G := fun F H σ i g => by
  obtain ⟨F', e, i', g'⟩ := v F H σ i g
  exact ⟨F', s', G', e, i', g', h⟩
theorem vN0 {N : DSt → Gp → Prop} {s : DSt} {G : Gp} (h : N s G) : vN N s G := vN_vs VS.refl h
theorem vR_vs {Q : DK} {d d' : D} {G G' : Gp} (v : VS1 d G d' G') (h : Q d' G') : vR Q d G := fun F H w i g => by
  obtain ⟨F', e, i', g'⟩ := v F H w i g
  exact ⟨F', d', G', e, i', g', h⟩
theorem vR0 {Q : DK} {d : D} {G : Gp} (h : Q d G) : vR Q d G := vR_vs VS1.refl h
theorem vR_sub {Q : DK} {d : D} {G G' : Gp} (k : ∀ a x, G' a = some x → G a = some x) (h : Q d G') : vR Q d G := vR_vs (VS1.sub k) h
/-- what holds is seen otherwise -/
theorem vR_to {Q : DK} {d : D} {G G' : Gp} (k : ∀ F H, Hg F H G → Hg F H G') (h : Q d G') : vR Q d G := fun F H w i g => ⟨F, d, G', Ext.refl F H, i, k F H g, h⟩
theorem Ks.vN {F : Fz} {H : Hp} {Q : St → Hp → Prop} {Q' : DSt → Gp → Prop} (k : Ks F H Q Q') : Ks F H Q (vN Q') := fun σ' H' F' s' G' e i g q => by
  obtain ⟨F2, s2, G2, e2, i2, g2, q2⟩ := q F' H' σ' i g
  exact k σ' H' F2 s2 G2 (e.trans e2) i2 g2 q2
theorem Kc.vR {F : Fz} {H : Hp} {Q : VK} {Q' : DK} (k : Kc F H Q Q') : Kc F H Q (vR Q') := fun v H' F' d G' e g i q => by
  obtain ⟨F2, d2, G2, e2, i2, g2, q2⟩ := q F' H' v i g
  exact k v H' F2 d2 G2 (e.trans e2) g2 i2 q2
def dSeq (t u : DS) : DS := fun D s G => t { D with nx := vN (u D) } s G
def dNext : DS := fun D s G => D.nx s G
theorem lS_b {t : DS} {σ : St} {s : DSt} {H : Hp} {F : Fz} {G : Gp} (hs : IsS F H s σ) (hg : Hg F H G) {E : Ends} {E' : DEnds} (h : t E' s G) (k : Ek F H E E') : lS t E σ H := ⟨F, s, G, E', hs, hg, h, k⟩
theorem qss_nil : QSs X [] dNext := PSs.weak pss_nil fun D σ H h => by
  obtain ⟨F, s, G, D', hs, hg, h, k⟩ := h
  exact k.nx σ H F s G (Ext.refl F H) hs hg h
theorem qss_one {st : Stmt} {t : DS} (h : QS X st t) : QSs X [st] t := pss_one h
theorem qss_cons {st : Stmt} {rest : List Stmt} {t u : DS} (h1 : QS X st t) (h2 : QSs X rest u) : QSs X (st :: rest) (dSeq t u) := PSs.weak (pss_cons h1 h2) fun D σ H h => by
  obtain ⟨F, s, G, D', hs, hg, h, k⟩ := h
  refine lS_b hs hg h ⟨Ks.vN fun σ' H' F' s' G' e i g q => lS_b i g q (k.step e), k.rt, k.bk, k.ct⟩
def dDrop (t : DE) : DS := fun D s G => t s G fun _ G1 => D.nx s G1
theorem qs_expr {e : Expr} {pos : Pos} {t : DE} (h : QE X e t) (hs : swapsWith e none pos.line X.env = pure false := by rfl) : QS X (.Expr e pos) (dDrop t) := PS.weak (ps_expr h hs) fun D σ H h => by
  obtain ⟨F, s, G, D', hs, hg, h, k⟩ := h
  exact lE_b hs hg h fun v H1 F1 d G1 e1 s1 g1 i1 q => k.nx σ H1 F1 s G1 e1 s1 g1 q
def dRet (t : DE) : DS := fun D s G => t s G D.rt
theorem qs_ret {e : Expr} {pos : Pos} {t : DE} (h : QE X e t) : QS X (.Return (some e) pos) (dRet t) := PS.weak (ps_ret h) fun D σ H h => by
  obtain ⟨F, s, G, D', hs, hg, h, k⟩ := h
  exact lE_b hs hg h fun v H1 F1 d G1 e1 s1 g1 i1 q => k.rt v H1 F1 d G1 e1 g1 i1 q
def dIfS (c : DT) (t u : DS) : DS := fun D s G => c s G fun b G1 => if b = true then t D s G1 else u D s G1
theorem qs_if {c : Expr} {a b : List Stmt} {pos : Pos} {tc : DT} {t u : DS} (hc : QT X c tc) (ha : QSs X a t) (hb : QSs X b u) : QS X (.If c a b pos) (dIfS tc t u) := PS.weak (ps_if hc ha hb) fun D σ H h => by
  obtain ⟨F, s, G, D', hs, hg, h, k⟩ := h
  refine lT_b hs hg h fun b H1 F1 G1 e1 s1 g1 q => ?_
  cases b with
  | true => exact lS_b s1 g1 (show t D' s G1 from q) (k.step e1)
  | false => exact lS_b s1 g1 (show u D' s G1 from q) (k.step e1)
def hName (i : Nat) : DG := fun d s G Q => Q (s.set i (some d)) G
theorem lG_name {i : Nat} {v : V} {σ : St} {H : Hp} {Q : St → Hp → Prop} (h : lG (hName i) v σ H Q) : gName i v σ H Q := by
  obtain ⟨F, s, G, d, Q', hs, hg, hd, h, k⟩ := h
  exact k (σ.set i (some v)) H F _ G (Ext.refl F H) (hs.set i hd) hg h
theorem qg_name {i : Nat} {x : Str} {pos : Pos} (hN : X.N.Nodup) (hi : X.N[i]? = some x) (hx : Loc X.env.scope x) (hf : X.fn x = true ∨ X.env.scope.names.lookup x = some .local := by first | exact .inl rfl | exact .inr rfl | assumption) : QG X (.Name x pos) (hName i) :=
  PG.weak (pg_name hN hi hx hf) fun _ _ _ _ h => lG_name h
def hNil : DGs := fun ds s G Q => ds = [] ∧ Q s G
def hCons (t : DG) (u : DGs) : DGs := fun ds s G Q => ∃ d r, ds = d :: r ∧ t d s G fun s' G' => u r s' G' Q
theorem qgs_nil : QGs X [] hNil := PGs.weak pgs_nil fun vs σ H Q h => by
  obtain ⟨F, s, G, ds, Q', hs, hg, hd, ⟨e, h⟩, k⟩ := h
  subst e
  exact ⟨isL_nil.mp hd, k σ H F s G (Ext.refl F H) hs hg h⟩
theorem qgs_cons {e : Expr} {es : List Expr} {t : DG} {u : DGs} (h1 : QG X e t) (h2 : QGs X es u) (hs : (assignEach (e :: es) X.env).map (·.2) = assign e X.env :: (assignEach es X.env).map (·.2) := by rfl) : QGs X (e :: es) (hCons t u) :=
  PGs.weak (pgs_cons h1 h2 hs) fun vs σ H Q h => by
    obtain ⟨F, s, G, ds, Q', hs, hg, hd, ⟨d, r, e, h⟩, k⟩ := h
    subst e
    obtain ⟨v, rv, rfl, iv, ir⟩ := isL_cons.mp hd
    exact ⟨v, rv, rfl, F, s, G, d, _, hs, hg, iv, h, fun σ' H' F' s' G' e' i' g' q' => ⟨F', s', G', r, Q', i', g', ir.mono e', q', k.step e'⟩⟩
def hTup (n : Nat) (t : DGs) : DG := fun d s G Q => ∃ ds, d = .tup ds ∧ ds.length = n ∧ t ds s G Q
theorem qg_tup {es : List Expr} {kk : Nat} {pos : Pos} {t : DGs} {n : Nat} (hc : X.calm = true) (h : QGs X es t) (hn : (assignEach es X.env).length = n := by rfl) (hst : (assignEach es X.env).findIdx? (·.1) = none := by rfl) : QG X (.Tuple es kk pos) (hTup n t) :=
  PG.weak (pg_tup hc h hn hst) fun v σ H Q h => by
    obtain ⟨F, s, G, d, Q', hs, hg, hd, ⟨ds, e, hl, h⟩, k⟩ := h
    subst e
    obtain ⟨a, vs, e, ha, il⟩ := is_tup.mp hd
    exact ⟨a, vs, e, .inl (.inl ha), by rw [il.length]; exact hl, F, s, G, ds, Q', hs, hg, il, h, k⟩
abbrev DSet := D → D → D → Gp → (Gp → Prop) → Prop
def SSet (t : TSet) (t' : DSet) : Prop := ∀ F H G o i v d1 d2 d3 (Q : Hp → Prop) (Q' : Gp → Prop), Hg F H G → Is F H d1 o → Is F H d2 i → Is F H d3 v → t' d1 d2 d3 G Q' → (∀ H' F' G', Ext F H F' H' → Hg F' H' G' → Q' G' → Q H') → t o i v H Q
def hSub (to ti : DE) (t : DSet) : DG := fun d s G Q => to s G fun o G1 => ti s G1 fun i G2 => t o i d G2 fun G3 => Q s G3
theorem qg_sub {o i : Expr} {pos : Pos} {to ti : DE} {t : TSet} {t' : DSet} (ho : QE X o to) (hi : QE X i ti) (hs : PSet X t) (ss : SSet t t')
    (ha : ∀ v, assign (.Subscript o i pos) X.env v = (do
      let ov ← holding [v] (eval o X.env)
      let iv ← holding [v, ov] (eval i X.env)
      standAt pos
      holding [v, ov, iv] (setItem ov iv v)
      release [v, ov, iv] []) := by intro _; rfl) : QG X (.Subscript o i pos) (hSub to ti t') := PG.weak (pg_sub ho hi hs ha) fun v σ H Q h => by
  obtain ⟨F, s, G, d, Q', hs, hg, hd, h, k⟩ := h
  refine lE_b hs hg h fun o H1 F1 d1 G1 e1 s1 g1 i1 h1 => ?_
  refine lE_b s1 g1 h1 fun i H2 F2 d2 G2 e2 s2 g2 i2 h2 => ?_
  exact ss F2 H2 G2 o i v d1 d2 d _ _ g2 (i1.mono e2) i2 (hd.mono (e1.trans e2)) h2 fun H' F' G' e' g' q' => k σ H' F' s G' ((e1.trans e2).trans e') (s2.mono e') g' q'
def dAsg (te : DE) (g : DG) : DS := fun D s G => te s G fun x G1 => g x s G1 D.nx
theorem qs_asg {tg e : Expr} {pos : Pos} {te : DE} {g : DG} (he : QE X e te) (hg : QG X tg g) (hs : swapsWithSole [tg] e pos.line X.env = pure false := by rfl) (hw : swappedStores [tg] e X.env = pure none := by rfl)
    (h1 : (assignEach [tg] X.env).map (·.2) = [assign tg X.env] := by rfl) : QS X (.Assign [tg] e pos) (dAsg te g) := PS.weak (ps_asg he hg hs hw h1) fun D σ H h => by
  obtain ⟨F, s, G, D', hs, hg, h, k⟩ := h
  exact lE_b hs hg h fun x H1 F1 d G1 e1 s1 g1 i1 h1 => ⟨F1, s, G1, d, _, s1, g1, i1, h1, k.nx.step e1⟩
theorem qs_set {i : Nat} {x : Str} {e : Expr} {te : DE} {pos pos' : Pos} (hN : X.N.Nodup) (hi : X.N[i]? = some x) (hx : Loc X.env.scope x) (he : QE X e te) (hs : swapsWith e (some (.Name x pos')) pos.line X.env = pure false := by rfl) (hf : X.fn x = true ∨ X.env.scope.names.lookup x = some .local := by first | exact .inl rfl | exact .inr rfl | assumption) :
    QS X (.Assign [.Name x pos'] e pos) (dAsg te (hName i)) := PS.weak (ps_set hN hi hx he hs hf) fun D σ H h => by
  obtain ⟨F, s, G, D', hs, hg, h, k⟩ := h
  exact lE_b hs hg h fun x H1 F1 d G1 e1 s1 g1 i1 h1 => k.nx _ H1 F1 _ G1 e1 (s1.set i i1) g1 h1
end
end Dg
namespace Dg
open PySem PySem.Spec L2
section
variable {X : Cx}
/-- what is walked: n things, the i-th is d where item i d; Ok: what must stand meanwhile -/
structure WalkD (J : It) (n : Nat) (item : Nat → D → Prop) (Ok : Gp → Prop) (F1 : Fz) (H1 : Hp) : Prop where
  go : ∀ i F H G, i < n → Ext F1 H1 F H → Hg F H G → Ok G → J.go i H
  stop : ∀ F H G, Ext F1 H1 F H → Hg F H G → Ok G → J.stop n H
  yld : ∀ i F H G x H', i < n → Ext F1 H1 F H → Hg F H G → Ok G → J.yld i H x H' → H' = H ∧ ∃ d, item i d ∧ Is F H d x
def dForC (n : Nat) (item : Nat → D → Prop) (Ok : Gp → Prop) (g : DG) (tb : DS) : DS := fun E s G => ∃ Iv : Nat → DSt → Gp → Prop, Iv 0 s G ∧ (∀ i s G, i ≤ n → Iv i s G → Ok G) ∧
  (∀ i d s G, i < n → item i d → Iv i s G → g d s G fun s2 G2 => tb { E with nx := vN (Iv (i + 1)), ct := vN (Iv (i + 1)), bk := E.nx } s2 G2) ∧ ∀ s G, Iv n s G → E.nx s G
theorem forC_ok {J : It} {n : Nat} {item : Nat → D → Prop} {Ok : Gp → Prop} {F1 : Fz} {H1 : Hp} (w : WalkD J n item Ok F1 H1) {g : DG} {tb : DS} {E : Ends} {E' : DEnds} {s : DSt} {σ : St} {G : Gp} (hs : IsS F1 H1 s σ) (hg : Hg F1 H1 G) (h : dForC n item Ok g tb E' s G) (k : Ek F1 H1 E E') :
    ∃ W : Nat → Nat → St → Hp → Prop, (∃ m, W 0 m σ H1) ∧ ∀ i m σ H, W i m σ H →
      (J.stop i H ∧ E.nx σ H) ∨ (J.go i H ∧ ∃ N : St → Hp → Prop, (∀ σ' H', N σ' H' → ∃ m', m' < m ∧ W (i + 1) m' σ' H') ∧ ∀ x H', J.yld i H x H' → lG g x σ H' fun σ2 H2 => lS tb { E with nx := N, ct := N, bk := E.nx } σ2 H2) := by
  obtain ⟨Iv, h0, hok, hst, hd⟩ := h
  refine ⟨fun i m σ H => m = n - i ∧ i ≤ n ∧ ∃ F s G, Ext F1 H1 F H ∧ IsS F H s σ ∧ Hg F H G ∧ Iv i s G, ⟨n, by simp, Nat.zero_le _, F1, s, G, Ext.refl F1 H1, hs, hg, h0⟩, ?_⟩
  rintro i m σ' H' ⟨rfl, hi, F, s', G', ex, is', hg', iv⟩
  by_cases hlt : i < n
  · refine .inr ⟨w.go i F H' G' hlt ex hg' (hok i _ _ hi iv), fun σ2 H2 => ∃ F2 s2 G2, Ext F1 H1 F2 H2 ∧ IsS F2 H2 s2 σ2 ∧ Hg F2 H2 G2 ∧ Iv (i + 1) s2 G2, fun σ2 H2 z => ⟨n - (i + 1), by omega, rfl, hlt, z⟩, fun x H2 y => ?_⟩
    obtain ⟨rfl, d, hit, hx⟩ := w.yld i F H' G' x H2 hlt ex hg' (hok i _ _ hi iv) y
    refine ⟨F, s', G', d, _, is', hg', hx, hst i d s' G' hlt hit iv, fun σ3 H3 F3 s3 G3 e3 i3 g3 q3 => ?_⟩
    have nx : Ks F3 H3 (fun σ2 H2 => ∃ F2 s2 G2, Ext F1 H1 F2 H2 ∧ IsS F2 H2 s2 σ2 ∧ Hg F2 H2 G2 ∧ Iv (i + 1) s2 G2) (vN (Iv (i + 1))) :=
      Ks.vN fun σ4 H4 F4 s4 G4 e4 i4 g4 q4 => ⟨F4, s4, G4, (ex.trans e3).trans e4, i4, g4, q4⟩
    exact lS_b i3 g3 q3 ⟨nx, k.rt.step (ex.trans e3), k.nx.step (ex.trans e3), nx⟩
  · have e : i = n := by omega
    subst e
    exact .inl ⟨w.stop F H' G' ex hg' (hok i _ _ hi iv), k.nx σ' H' F s' G' ex is' hg' (hd s' G' iv)⟩
theorem walk_L {K : PySem.W.Frag} {F1 : Fz} {H1 : Hp} {x : D} {a : Addr} {ds : List D} (hx : Is F1 H1 x (.ref a)) : WalkD (Itl K a) ds.length (fun i d => ds[i]? = some d) (fun G => lstOf G x = some ds) F1 H1 := by
  have key : ∀ F H G, Ext F1 H1 F H → Hg F H G → lstOf G x = some ds → ∃ vs, H a = some (.lst vs) ∧ IsL F H ds vs := fun F H G ex hg hok => by
    obtain ⟨b, vs, e, h1, h2⟩ := lstOf_ok hg (hx.mono ex) hok
    cases e
    exact ⟨vs, h1, h2⟩
  refine ⟨fun i F H G hi ex hg hok => ?_, fun F H G ex hg hok => ?_, fun i F H G v H' hi ex hg hok y => ?_⟩
  · obtain ⟨vs, h1, h2⟩ := key F H G ex hg hok
    exact ⟨vs, vs[i]'(by rw [h2.length]; exact hi), .inl (.inl h1), List.getElem?_eq_getElem _⟩
  · obtain ⟨vs, h1, h2⟩ := key F H G ex hg hok
    exact ⟨vs, .inl (.inl h1), by rw [h2.length]; exact Nat.le_refl _⟩
  · obtain ⟨vs, h1, h2⟩ := key F H G ex hg hok
    obtain ⟨e, y⟩ := y
    obtain ⟨d, h3, h4⟩ := h2.getV (y vs (.inl (.inl h1)))
    exact ⟨e, d, h3, h4⟩
theorem walk_T {K : PySem.W.Frag} {F1 : Fz} {H1 : Hp} {a : Addr} {ds : List D} (hx : Is F1 H1 (.tup ds) (.ref a)) : WalkD (Itt K a) ds.length (fun i d => ds[i]? = some d) (fun _ => True) F1 H1 := by
  have key : ∀ F H, Ext F1 H1 F H → ∃ vs, H a = some (.tup vs) ∧ IsL F H ds vs := fun F H ex => by
    obtain ⟨b, vs, e, h1, h2⟩ := is_tup.mp (hx.mono ex)
    cases e
    exact ⟨vs, h1, h2⟩
  refine ⟨fun i F H G hi ex hg hok => ?_, fun F H G ex hg hok => ?_, fun i F H G v H' hi ex hg hok y => ?_⟩
  · obtain ⟨vs, h1, h2⟩ := key F H ex
    exact ⟨vs, vs[i]'(by rw [h2.length]; exact hi), .inl (.inl h1), List.getElem?_eq_getElem _⟩
  · obtain ⟨vs, h1, h2⟩ := key F H ex
    exact ⟨vs, .inl (.inl h1), by rw [h2.length]; exact Nat.le_refl _⟩
  · obtain ⟨vs, h1, h2⟩ := key F H ex
    obtain ⟨e, y⟩ := y
    obtain ⟨d, h3, h4⟩ := h2.getV (y vs (.inl (.inl h1)))
    exact ⟨e, d, h3, h4⟩
theorem walk_R {lo : Int} {n : Nat} {F1 : Fz} {H1 : Hp} : WalkD (Itr lo n) n (fun i d => d = .int (lo + (i : Int))) (fun _ => True) F1 H1 :=
  ⟨fun i F H G hi _ _ _ => hi, fun F H G _ _ _ => Nat.le_refl n, fun i F H G v H' hi ex hg hok y => ⟨y.1, _, rfl, is_int.mpr y.2⟩⟩
def dForL (tl : DE) (g : DG) (tb : DS) : DS := fun E s G => tl s G fun x G1 => ∃ ds, lstOf G1 x = some ds ∧ dForC ds.length (fun i d => ds[i]? = some d) (fun G => lstOf G x = some ds) g tb E s G1
def dForT (tl : DE) (g : DG) (tb : DS) : DS := fun E s G => tl s G fun x G1 => ∃ ds, x = .tup ds ∧ dForC ds.length (fun i d => ds[i]? = some d) (fun _ => True) g tb E s G1
def dForR1 (ta : DA) (g : DG) (tb : DS) : DS := fun E s G => ta s G fun ds G1 => ∃ j : Int, ds = [.int j] ∧ (-(2 ^ 62) ≤ j ∧ j < 2 ^ 62) ∧ dForC j.toNat (fun i d => d = .int (0 + (i : Int))) (fun _ => True) g tb E s G1
def dForR2 (ta : DA) (g : DG) (tb : DS) : DS := fun E s G => ta s G fun ds G1 => ∃ i j : Int, ds = [.int i, .int j] ∧ (-(2 ^ 62) ≤ i ∧ i < 2 ^ 62 ∧ -(2 ^ 62) ≤ j ∧ j < 2 ^ 62) ∧ dForC (j - i).toNat (fun k d => d = .int (i + (k : Int))) (fun _ => True) g tb E s G1
theorem qs_forL {tg l : Expr} {body : List Stmt} {pos : Pos} {tl : DE} {g : DG} {tb : DS} (hp : PassesOwn (model X.prog X.w) X.A X.env X.xe) (hc : X.calm = true) (hl : QE X l tl) (hg : QG X tg g) (hb : QSs X body tb) (hs : ∀ x, foldedSetIterable l X.env x = pure x := by intro _; rfl) :
    QS X (.For tg l body [] pos) (dForL tl g tb) := PS.weak (ps_for hp hc (pi_list hl) hg hb hs) fun E σ H h => by
  obtain ⟨F, s, G, E', hs, hg, h, k⟩ := h
  refine lE_b hs hg h fun v H1 F1 d G1 e1 s1 g1 i1 ⟨ds, hl, h1⟩ => ?_
  obtain ⟨a, vs, rfl, h2, h3⟩ := lstOf_ok g1 i1 hl
  exact ⟨a, rfl, ⟨vs, .inl (.inl h2)⟩, forC_ok (walk_L i1) s1 g1 h1 (k.step e1)⟩
theorem qs_forT {tg l : Expr} {body : List Stmt} {pos : Pos} {tl : DE} {g : DG} {tb : DS} (hp : PassesOwn (model X.prog X.w) X.A X.env X.xe) (hc : X.calm = true) (hl : QE X l tl) (hg : QG X tg g) (hb : QSs X body tb) (hs : ∀ x, foldedSetIterable l X.env x = pure x := by intro _; rfl) :
    QS X (.For tg l body [] pos) (dForT tl g tb) := PS.weak (ps_for hp hc (pi_tup hl) hg hb hs) fun E σ H h => by
  obtain ⟨F, s, G, E', hs, hg, h, k⟩ := h
  refine lE_b hs hg h fun v H1 F1 d G1 e1 s1 g1 i1 ⟨ds, hl, h1⟩ => ?_
  subst hl
  obtain ⟨a, vs, rfl, h2, h3⟩ := is_tup.mp i1
  exact ⟨a, rfl, ⟨vs, .inl (.inl h2)⟩, forC_ok (walk_T i1) s1 g1 h1 (k.step e1)⟩
theorem isL_one {F : Fz} {H : Hp} {d : D} {vs : List V} (h : IsL F H [d] vs) : ∃ v, vs = [v] ∧ Is F H d v := by
  obtain ⟨v, r, rfl, h1, h2⟩ := isL_cons.mp h
  rw [isL_nil.mp h2]
  exact ⟨v, rfl, h1⟩
theorem isL_two {F : Fz} {H : Hp} {d e : D} {vs : List V} (h : IsL F H [d, e] vs) : ∃ v w, vs = [v, w] ∧ Is F H d v ∧ Is F H e w := by
  obtain ⟨v, r, rfl, h1, h2⟩ := isL_cons.mp h
  obtain ⟨w, rfl, h3⟩ := isL_one h2
  exact ⟨v, w, rfl, h1, h3⟩
theorem qs_forR1 {tg a : Expr} {p pos2 : Pos} {body : List Stmt} {pos : Pos} {ta : DA} {g : DG} {tb : DS} (hp : PassesOwn (model X.prog X.w) X.A X.env X.xe) (hc : X.calm = true) (hgl : Gl X "range") (hm : X.mg "range" = none) (ha : QA X [a] ta) (hg : QG X tg g) (hb : QSs X body tb)
    (hs1 : starEach [a] X.env = [(false, eval a X.env)] := by rfl) (hs : ∀ x, foldedSetIterable (.Call (.Name "range" p) [a] [] pos2) X.env x = pure x := by intro _; rfl) :
    QS X (.For tg (.Call (.Name "range" p) [a] [] pos2) body [] pos) (dForR1 ta g tb) := PS.weak (ps_for hp hc (pi_range1 hgl hm ha hs1) hg hb hs) fun E σ H h => by
  obtain ⟨F, s, G, E', hs, hg, h, k⟩ := h
  refine lA_b hs hg h fun vs H1 F1 ds G1 e1 s1 g1 i1 ⟨j, hl, hj, h1⟩ => ?_
  subst hl
  obtain ⟨v, rfl, iv⟩ := isL_one i1
  exact ⟨j, by rw [is_int.mp iv], hj.1, hj.2, forC_ok walk_R s1 g1 h1 (k.step e1)⟩
theorem qs_forR2 {tg a b : Expr} {p pos2 : Pos} {body : List Stmt} {pos : Pos} {ta : DA} {g : DG} {tb : DS} (hp : PassesOwn (model X.prog X.w) X.A X.env X.xe) (hc : X.calm = true) (hgl : Gl X "range") (hm : X.mg "range" = none) (ha : QA X [a, b] ta) (hg : QG X tg g) (hb : QSs X body tb)
    (hs1 : starEach [a, b] X.env = [(false, eval a X.env), (false, eval b X.env)] := by rfl) (hs2 : starEach [b] X.env = [(false, eval b X.env)] := by rfl) (hs : ∀ x, foldedSetIterable (.Call (.Name "range" p) [a, b] [] pos2) X.env x = pure x := by intro _; rfl) :
    QS X (.For tg (.Call (.Name "range" p) [a, b] [] pos2) body [] pos) (dForR2 ta g tb) := PS.weak (ps_for hp hc (pi_range2 hgl hm ha hs1 hs2) hg hb hs) fun E σ H h => by
  obtain ⟨F, s, G, E', hs, hg, h, k⟩ := h
  refine lA_b hs hg h fun vs H1 F1 ds G1 e1 s1 g1 i1 ⟨i, j, hl, hj, h1⟩ => ?_
  subst hl
  obtain ⟨v, w, rfl, iv, iw⟩ := isL_two i1
  exact ⟨i, j, by rw [is_int.mp iv, is_int.mp iw], hj, forC_ok walk_R s1 g1 h1 (k.step e1)⟩
/-- while: W a word of a measure, the slots, the ghost heap -/
def dWhile (c : DT) (tb : DS) : DS := fun E s G => ∃ W : Nat → DSt → Gp → Prop, (∃ m, W m s G) ∧ ∀ m s G, W m s G →
  c s G fun b G1 => if b = true then tb { E with nx := vN (fun s' G' => ∃ m', m' < m ∧ W m' s' G'), ct := vN (fun s' G' => ∃ m', m' < m ∧ W m' s' G'), bk := E.nx } s G1 else E.nx s G1
theorem qs_while {c : Expr} {body : List Stmt} {pos : Pos} {tc : DT} {tb : DS} (hp : PassesOwn (model X.prog X.w) X.A X.env X.xe) (hc : QT X c tc) (hb : QSs X body tb) : QS X (.While c body [] pos) (dWhile tc tb) := PS.weak (ps_while hp hc hb) fun E σ H h => by
  obtain ⟨F, s, G, E', hs, hg, ⟨W, ⟨m0, h0⟩, hst⟩, k⟩ := h
  refine ⟨fun m σ1 H1 => ∃ F1 s1 G1, Ext F H F1 H1 ∧ IsS F1 H1 s1 σ1 ∧ Hg F1 H1 G1 ∧ W m s1 G1, ⟨m0, F, s, G, Ext.refl F H, hs, hg, h0⟩, ?_⟩
  rintro m σ1 H1 ⟨F1, s1, G1, e1, i1, g1, w1⟩
  refine lT_b i1 g1 (hst m s1 G1 w1) fun b H2 F2 G2 e2 i2 g2 q => ?_
  cases b with
  | true =>
    have nx : Ks F2 H2 (fun σ3 H3 => ∃ m', m' < m ∧ ∃ F3 s3 G3, Ext F H F3 H3 ∧ IsS F3 H3 s3 σ3 ∧ Hg F3 H3 G3 ∧ W m' s3 G3) (vN fun s' G' => ∃ m', m' < m ∧ W m' s' G') :=
      Ks.vN fun σ4 H4 F4 s4 G4 e4 i4 g4 ⟨m', hm', w4⟩ => ⟨m', hm', F4, s4, G4, (e1.trans e2).trans e4, i4, g4, w4⟩
    exact ⟨fun σ3 H3 => ∃ m', m' < m ∧ ∃ F3 s3 G3, Ext F H F3 H3 ∧ IsS F3 H3 s3 σ3 ∧ Hg F3 H3 G3 ∧ W m' s3 G3, fun σ3 H3 z => z, lS_b i2 g2 q ⟨nx, k.rt.step (e1.trans e2), k.nx.step (e1.trans e2), nx⟩⟩
  | false => exact k.nx σ1 H2 F2 s1 G2 (e1.trans e2) i2 g2 q
theorem wipe_idem (σ : St) : ∀ (i : Nat) (o : Option V) (vs : List Nat), i ∈ vs → wipe (σ.set i o) vs = wipe σ vs
  | i, o, [], h => by cases h
  | i, o, v :: vs, h => by
    by_cases e : i ∈ vs
    · show (wipe (σ.set i o) vs).set v none = (wipe σ vs).set v none
      rw [wipe_idem σ i o vs e]
    · have hv : i = v := by
        rcases List.mem_cons.mp h with z | z
        · exact z
        · exact absurd z e
      subst hv
      show (wipe (σ.set i o) vs).set i none = (wipe σ vs).set i none
      have key : ∀ (ws : List Nat), (wipe (σ.set i o) ws).set i none = (wipe σ ws).set i none := fun ws => by
        induction ws with
        | nil => show (σ.set i o).set i none = σ.set i none; rw [List.set_set]
        | cons w ws ih =>
          show ((wipe (σ.set i o) ws).set w none).set i none = ((wipe σ ws).set w none).set i none
          by_cases hw : w = i
          · subst hw
            rw [List.set_set, List.set_set]
            exact ih
          · rw [List.set_comm _ _ hw, ih, List.set_comm _ _ (fun q => hw q.symm)]
      exact key vs
theorem wipe_wipe (σ : St) : ∀ (ws vs : List Nat), (∀ i ∈ ws, i ∈ vs) → wipe (wipe σ ws) vs = wipe σ vs
  | [], vs, _ => rfl
  | w :: ws, vs, h => by
    show wipe ((wipe σ ws).set w none) vs = wipe σ vs
    rw [wipe_idem _ w none vs (h w (List.mem_cons_self ..)), wipe_wipe σ ws vs fun i hi => h i (List.mem_cons_of_mem _ hi)]
/-- the slots behind (a, b, ..) = a tuple -/
def setN (s : DSt) : List Nat → List D → DSt
  | i :: is, d :: ds => setN (s.set i (some d)) is ds
  | _, _ => s
/-- a comprehension's target: a name; names in a tuple -/
inductive CT where
  | nm (i : Nat) | tp (is : List Nat)
def gNames : List Nat → TGs
  | [] => gNil
  | i :: is => gCons (gName i) (gNames is)
def CT.g (K : PySem.W.Frag) : CT → TG
  | .nm i => gName i
  | .tp is => gTup K is.length (gNames is)
def CT.put : CT → D → DSt → (DSt → Prop) → Prop
  | .nm i, d, s, Q => Q (s.set i (some d))
  | .tp is, d, s, Q => ∃ ds, d = .tup ds ∧ ds.length = is.length ∧ Q (setN s is ds)
def CT.sl : CT → List Nat
  | .nm i => [i]
  | .tp is => is
theorem gNames_ok {F : Fz} {H : Hp} {Q : St → Hp → Prop} : ∀ {is : List Nat} {ds : List D} {vs : List V} {s : DSt} {σ : St}, IsS F H s σ → IsL F H ds vs → ds.length = is.length → (∀ σ', IsS F H (setN s is ds) σ' → (∀ ws, (∀ i ∈ is, i ∈ ws) → wipe σ' ws = wipe σ ws) → Q σ' H) → gNames is vs σ H Q
  | [], ds, vs, s, σ, hs, hl, hn, q => by
    have e : ds = [] := List.length_eq_zero_iff.mp hn
    subst e
    exact ⟨isL_nil.mp hl, q σ hs fun _ _ => rfl⟩
  | i :: is, [], vs, s, σ, hs, hl, hn, q => by cases hn
  | i :: is, d :: ds, vs, s, σ, hs, hl, hn, q => by
    obtain ⟨v, r, rfl, hv, hr⟩ := isL_cons.mp hl
    refine ⟨v, r, rfl, ?_⟩
    show gNames is r (σ.set i (some v)) H Q
    refine gNames_ok (hs.set i hv) hr (Nat.succ.inj hn) fun σ' h1 h2 => q σ' h1 fun ws hw => ?_
    rw [h2 ws fun j hj => hw j (List.mem_cons_of_mem _ hj), wipe_idem σ i _ ws (hw i (List.mem_cons_self ..))]
theorem CT.ok {K : PySem.W.Frag} {F : Fz} {H : Hp} {c : CT} {d : D} {v : V} {s : DSt} {σ : St} {Q : St → Hp → Prop} {Q' : DSt → Prop} (hs : IsS F H s σ) (hd : Is F H d v) (h : c.put d s Q') (k : ∀ s' σ', IsS F H s' σ' → (∀ ws, (∀ i ∈ c.sl, i ∈ ws) → wipe σ' ws = wipe σ ws) → Q' s' → Q σ' H) : c.g K v σ H Q := by
  cases c with
  | nm i => exact k _ _ (hs.set i hd) (fun ws hw => wipe_idem σ i _ ws (hw i (List.mem_cons_self ..))) h
  | tp is =>
    obtain ⟨ds, rfl, hl, q⟩ := h
    obtain ⟨a, vs, rfl, ha, il⟩ := is_tup.mp hd
    exact ⟨a, vs, rfl, .inl (.inl ha), by rw [il.length]; exact hl, gNames_ok hs il hl fun σ' h1 h2 => k _ _ h1 h2 q⟩
def dYes : DT := fun _ G Q => Q true G
def vG (N : Gp → Prop) : Gp → Prop := fun G => ∀ F H, Hg F H G → ∃ F' G', Ext F H F' H ∧ Hg F' H G' ∧ N G'
theorem vG0 {N : Gp → Prop} {G : Gp} (h : N G) : vG N G := fun F H g => ⟨F, G, Ext.refl F H, g, h⟩
def dLcC (n : Nat) (item : Nat → D → Prop) (Ok : Gp → Prop) (c : CT) (tt : DT) (te : DE) (vs : List Nat) : DE := fun s G Q => ∀ p, G p = none → ∃ Iv : Nat → Gp → Prop, Iv 0 (ud G p (.sm (.lst []))) ∧ (∀ i G, i ≤ n → Iv i G → Ok G) ∧
  (∀ i d G, i < n → item i d → Iv i G → c.put d (wipeD s vs) fun s2 => tt s2 G fun b G3 => if b = true then te s2 G3 fun y G4 => ∃ acc, G4 p = some (.sm (.lst acc)) ∧ acc.length < 100000 ∧ vG (Iv (i + 1)) (ud G4 p (.sm (.lst (acc ++ [y])))) else vG (Iv (i + 1)) G3) ∧
  ∀ G, Iv n G → Q (.ref p) G
theorem lcC_ok {K : PySem.W.Frag} {J : It} {n : Nat} {item : Nat → D → Prop} {Ok : Gp → Prop} {F1 : Fz} {H1 : Hp} (w : WalkD J n item Ok F1 H1) {c : CT} {tt : DT} {tt' : TT} (htt : ∀ σ H Q, lT tt σ H Q → tt' σ H Q) {te : DE} {vs : List Nat} (hcv : ∀ i ∈ c.sl, i ∈ vs) {s : DSt} {σ : St} {G : Gp} {Q : VK} {Q' : DK}
    (hs : IsS F1 H1 s σ) (hg : Hg F1 H1 G) (h : dLcC n item Ok c tt te vs s G Q') (k : Kc F1 H1 Q Q') :
    ∀ D, H1 D = none → ∃ W : Nat → Nat → Hp → Prop, (∃ m, W 0 m (upd H1 D (.lst []))) ∧ ∀ i m H, W i m H →
      (J.stop i H ∧ Q (.ref D) H) ∨ (J.go i H ∧ ∃ Nx : Hp → Prop, (∀ H', Nx H' → ∃ m', m' < m ∧ W (i + 1) m' H') ∧ ∀ x H', J.yld i H x H' → c.g K x (wipe σ vs) H' fun σ2 H2 => wipe σ2 vs = wipe σ vs ∧ tt' σ2 H2 fun b H3 =>
        if b = true then lE te σ2 H3 fun y H4 => ∃ acc, H4 D = some (.lst acc) ∧ acc.length < sizeLine ∧ Nx (upd H4 D (.lst (acc ++ [y]))) else Nx H3) := by
  intro p hp
  obtain ⟨Iv, h0, hok, hst, hd⟩ := h p (hg.fresh hp)
  obtain ⟨ex0, g0⟩ := fin_lst hg (IsL.nil (F := F1) (H := H1)) hp
  refine ⟨fun i m H => m = n - i ∧ i ≤ n ∧ ∃ F G, Ext F1 H1 F H ∧ Hg F H G ∧ Iv i G, ⟨n, by simp, Nat.zero_le _, F1, _, ex0, g0, h0⟩, ?_⟩
  rintro i m H ⟨rfl, hi, F, G, ex, hg, iv⟩
  by_cases hlt : i < n
  · refine .inr ⟨w.go i F H G hlt ex hg (hok i _ hi iv), fun H2 => ∃ F2 G2, Ext F1 H1 F2 H2 ∧ Hg F2 H2 G2 ∧ Iv (i + 1) G2, fun H2 z => ⟨n - (i + 1), by omega, rfl, hlt, z⟩, fun x H2 y => ?_⟩
    obtain ⟨rfl, d, hit, hx⟩ := w.yld i F H G x H2 hlt ex hg (hok i _ hi iv) y
    have fin : ∀ F3 H3 G3, Ext F1 H1 F3 H3 → Hg F3 H3 G3 → vG (Iv (i + 1)) G3 → ∃ F2 G2, Ext F1 H1 F2 H3 ∧ Hg F2 H3 G2 ∧ Iv (i + 1) G2 := fun F3 H3 G3 e3 g3 q => by
      obtain ⟨F4, G4, e4, g4, q4⟩ := q F3 H3 g3
      exact ⟨F4, G4, e3.trans e4, g4, q4⟩
    refine CT.ok (IsS.wipe (hs.mono ex) vs) hx (hst i d G hlt hit iv) fun s2 σ2 i2 hw q2 => ⟨by rw [hw vs hcv, wipe_wipe σ vs vs fun i hi => hi], htt _ _ _ (lT_b i2 hg q2 fun b H3 F3 G3 e3 i3 g3 q3 => ?_)⟩
    cases b with
    | false => exact fin F3 H3 G3 (ex.trans e3) g3 q3
    | true =>
      refine lE_b i3 g3 (show te s2 G3 _ from q3) fun y H4 F4 dy G4 e4 i4 g4 iy ⟨acc, ha, hz, q4⟩ => ?_
      obtain ⟨z, hz2, va, rfl, hl⟩ := g4.get ha
      have e5 := ext_own (z := .lst (va ++ [y])) g4 ha
      refine ⟨va, hz2, by rw [hl.length]; exact sz_lt hz, fin F4 _ _ (((ex.trans e3).trans e4).trans e5) (g4.set (o' := .lst (acc ++ [dy])) ha ⟨_, rfl, (hl.mono e5).append (IsL.cons (iy.mono e5) IsL.nil)⟩) q4⟩
  · have e : i = n := by omega
    subst e
    exact .inl ⟨w.stop F H G ex hg (hok i _ hi iv), k _ H F _ G ex hg (is_ref.mpr rfl) (hd G iv)⟩
def dLcL (tl : DE) (c : CT) (tt : DT) (te : DE) (vs : List Nat) : DE := fun s G Q => tl s G fun x G1 => ∃ ds, lstOf G1 x = some ds ∧ dLcC ds.length (fun i d => ds[i]? = some d) (fun G => lstOf G x = some ds) c tt te vs s G1 Q
def dLcT (tl : DE) (c : CT) (tt : DT) (te : DE) (vs : List Nat) : DE := fun s G Q => tl s G fun x G1 => ∃ ds, x = .tup ds ∧ dLcC ds.length (fun i d => ds[i]? = some d) (fun _ => True) c tt te vs s G1 Q
def dLcR1 (ta : DA) (c : CT) (tt : DT) (te : DE) (vs : List Nat) : DE := fun s G Q => ta s G fun ds G1 => ∃ j : Int, ds = [.int j] ∧ (-(2 ^ 62) ≤ j ∧ j < 2 ^ 62) ∧ dLcC j.toNat (fun i d => d = .int (0 + (i : Int))) (fun _ => True) c tt te vs s G1 Q
theorem lE_lcL {K : PySem.W.Frag} {tl : DE} {c : CT} {tt : DT} {tt' : TT} (htt : ∀ σ H Q, lT tt σ H Q → tt' σ H Q) {te : DE} {vs : List Nat} (hcv : ∀ i ∈ c.sl, i ∈ vs) {σ : St} {H : Hp} {Q : VK} (h : lE (dLcL tl c tt te vs) σ H Q) : tLc (iList K (lE tl)) (c.g K) tt' (lE te) vs σ H Q := by
  obtain ⟨F, s, G, Q', hs, hg, h, k⟩ := h
  refine lE_b hs hg h fun v H1 F1 d G1 e1 s1 g1 i1 ⟨ds, hl, h1⟩ => ?_
  obtain ⟨a, vs, rfl, h2, h3⟩ := lstOf_ok g1 i1 hl
  exact ⟨a, rfl, ⟨vs, .inl (.inl h2)⟩, lcC_ok (walk_L i1) htt hcv s1 g1 h1 (k.step e1)⟩
theorem lE_lcR1 {K : PySem.W.Frag} {ta : DA} {c : CT} {tt : DT} {tt' : TT} (htt : ∀ σ H Q, lT tt σ H Q → tt' σ H Q) {te : DE} {vs : List Nat} (hcv : ∀ i ∈ c.sl, i ∈ vs) {σ : St} {H : Hp} {Q : VK} (h : lE (dLcR1 ta c tt te vs) σ H Q) : tLc (iRng1 (lA ta)) (c.g K) tt' (lE te) vs σ H Q := by
  obtain ⟨F, s, G, Q', hs, hg, h, k⟩ := h
  refine lA_b hs hg h fun v H1 F1 d G1 e1 s1 g1 i1 ⟨j, hl, hj, h1⟩ => ?_
  subst hl
  obtain ⟨v, rfl, iv⟩ := isL_one i1
  exact ⟨j, by rw [is_int.mp iv], hj.1, hj.2, lcC_ok walk_R htt hcv s1 g1 h1 (k.step e1)⟩
theorem yes_ok {σ : St} {H : Hp} {Q : Bool → Hp → Prop} (h : lT dYes σ H Q) : tYes σ H Q := by
  obtain ⟨F, s, G, Q', hs, hg, h, k⟩ := h
  exact k true H F G (Ext.refl F H) hg h
end
end Dg
namespace Dg
open PySem PySem.Spec L2
section
variable {X : Cx} {K : PySem.W.Frag}
theorem sr_ixL : SR (rIxL K) eIxL := by
  rintro F H G x y dx dy Q Q' hG ix iy ⟨ds, i, d, hl, rfl, ha, q⟩ k
  obtain ⟨a, vs, rfl, h1, h2⟩ := lstOf_ok hG ix hl
  obtain ⟨v, h3, h4⟩ := atI_rel h2 ha
  exact ⟨a, vs, i, v, rfl, is_int.mp iy, .inl (.inl h1), h3, k.fin hG h4 q⟩
theorem sr_ixT : SR (rIxT K) eIxT := by
  rintro F H G x y dx dy Q Q' hG ix iy ⟨ds, i, d, rfl, rfl, ha, q⟩ k
  obtain ⟨a, vs, rfl, h1, h2⟩ := is_tup.mp ix
  obtain ⟨v, h3, h4⟩ := atI_rel h2 ha
  exact ⟨a, vs, i, v, rfl, is_int.mp iy, .inl (.inl h1), h3, k.fin hG h4 q⟩
/-- xs[i] = v -/
def eSetL : DSet := fun o i v G Q => ∃ p ds n j, o = .ref p ∧ i = .int n ∧ G p = some (.sm (.lst ds)) ∧ ixN ds.length n = some j ∧ Q (ud G p (.sm (.lst (ds.set j v))))
theorem ss_setL : SSet rSetL eSetL := by
  rintro F H G o i v d1 d2 d3 Q Q' hG i1 i2 i3 ⟨p, ds, n, j, rfl, rfl, hp, hj, q⟩ k
  obtain ⟨z, hz, vs, rfl, hl⟩ := hG.get hp
  have e5 := ext_own (z := .lst (vs.set j v)) hG hp
  exact ⟨p, vs, n, j, is_ref.mp i1, is_int.mp i2, hz, by rw [hl.length]; exact hj, k _ F _ e5 (hG.set (o' := .lst (ds.set j d3)) hp ⟨_, rfl, (hl.mono e5).set (i3.mono e5) j⟩) q⟩
def eCat : DR2 := fun x y G Q => ∃ ds es, lstOf G x = some ds ∧ lstOf G y = some es ∧ ds.length + es.length ≤ 100000 ∧ ∀ p, G p = none → Q (.ref p) (ud G p (.sm (.lst (ds ++ es))))
theorem sr_cat : SR rCat eCat := by
  rintro F H G x y dx dy Q Q' hG ix iy ⟨ds, es, hl, hl2, hz, q⟩ k
  obtain ⟨a, vs, rfl, h1, h2⟩ := lstOf_ok hG ix hl
  obtain ⟨b, us, rfl, h3, h4⟩ := lstOf_ok hG iy hl2
  exact ⟨a, b, vs, us, rfl, rfl, h1, h3, by rw [h2.length, h4.length]; exact sz_ok hz, k.newL hG (h2.append h4) q⟩
def eCatT : DR2 := fun x y G Q => ∃ ds es, x = .tup ds ∧ y = .tup es ∧ ds.length + es.length ≤ 100000 ∧ Q (.tup (ds ++ es)) G
theorem sr_catT : SR (rCatA K) eCatT := by
  rintro F H G x y dx dy Q Q' hG ix iy ⟨ds, es, rfl, rfl, hz, q⟩ k
  obtain ⟨a, vs, rfl, h1, h2⟩ := is_tup.mp ix
  obtain ⟨b, us, rfl, h3, h4⟩ := is_tup.mp iy
  refine ⟨a, b, vs, us, rfl, rfl, .inl (.inl h1), .inl (.inl h3), by rw [h2.length, h4.length]; exact sz_ok hz, fun e => ?_, fun _ e => ?_, fun _ _ => k.newT hG (h2.append h4) q⟩
  · have e2 : ds = [] := List.length_eq_zero_iff.mp (by rw [← h2.length, e]; rfl)
    rw [e2] at q
    exact k.fin hG iy q
  · have e2 : es = [] := List.length_eq_zero_iff.mp (by rw [← h4.length, e]; rfl)
    rw [e2, List.append_nil] at q
    exact k.fin hG ix q
def cLen : List D → Gp → DK → Prop := fun xs G Q => ∃ x ds, xs = [x] ∧ (lstOf G x = some ds ∨ x = .tup ds) ∧ Q (.int (ds.length : Int)) G
theorem sc_len : SC (fun xs H Q => ∃ p ys, xs = [.ref p] ∧ (SqL K H p ys ∨ SqT K H p ys) ∧ Q (.int ys.length) H) cLen := by
  rintro F H G xs ds Q Q' hG il ⟨x, es, rfl, hx, q⟩ k
  obtain ⟨v, rfl, iv⟩ := isL_one il
  rcases hx with hx | rfl
  · obtain ⟨a, vs, rfl, h1, h2⟩ := lstOf_ok hG iv hx
    exact ⟨a, vs, rfl, .inl (.inl (.inl h1)), by rw [h2.length]; exact k.fin hG (is_int.mpr rfl) q⟩
  · obtain ⟨a, vs, rfl, h1, h2⟩ := is_tup.mp iv
    exact ⟨a, vs, rfl, .inr (.inl (.inl h1)), by rw [h2.length]; exact k.fin hG (is_int.mpr rfl) q⟩
def cList : List D → Gp → DK → Prop := fun xs G Q => ∃ x ds, xs = [x] ∧ (lstOf G x = some ds ∨ x = .tup ds) ∧ ∀ p, G p = none → Q (.ref p) (ud G p (.sm (.lst ds)))
theorem sc_list : SC (fun xs H Q => ∃ p ys, xs = [.ref p] ∧ (SqL K H p ys ∨ SqT K H p ys) ∧ ∀ l, H l = none → Q (.ref l) (upd H l (.lst ys))) cList := by
  rintro F H G xs ds Q Q' hG il ⟨x, es, rfl, hx, q⟩ k
  obtain ⟨v, rfl, iv⟩ := isL_one il
  rcases hx with hx | rfl
  · obtain ⟨a, vs, rfl, h1, h2⟩ := lstOf_ok hG iv hx
    exact ⟨a, vs, rfl, .inl (.inl (.inl h1)), k.newL hG h2 q⟩
  · obtain ⟨a, vs, rfl, h1, h2⟩ := is_tup.mp iv
    exact ⟨a, vs, rfl, .inr (.inl (.inl h1)), k.newL hG h2 q⟩
def cTuple : List D → Gp → DK → Prop := fun xs G Q => ∃ x ds, xs = [x] ∧ (lstOf G x = some ds ∨ x = .tup ds) ∧ Q (.tup ds) G
theorem sc_tuple : SC (fun xs H Q => ∃ p ys, xs = [.ref p] ∧ ((SqL K H p ys ∧ ∀ l, H l = none → Q (.ref l) (upd H l (.tup ys))) ∨ (SqT K H p ys ∧ Q (.ref p) H))) cTuple := by
  rintro F H G xs ds Q Q' hG il ⟨x, es, rfl, hx, q⟩ k
  obtain ⟨v, rfl, iv⟩ := isL_one il
  rcases hx with hx | rfl
  · obtain ⟨a, vs, rfl, h1, h2⟩ := lstOf_ok hG iv hx
    exact ⟨a, vs, rfl, .inl ⟨.inl (.inl h1), k.newT hG h2 q⟩⟩
  · obtain ⟨a, vs, rfl, h1, h2⟩ := is_tup.mp iv
    exact ⟨a, vs, rfl, .inr ⟨.inl (.inl h1), k.fin hG iv q⟩⟩
def cInt : List D → Gp → DK → Prop := fun xs G Q => (∃ i, xs = [.int i] ∧ Q (.int i) G) ∨ ∃ b : Bool, xs = [.bl b] ∧ Q (.int (if b then 1 else 0)) G
theorem sc_int : SC (fun xs H Q => (∃ i, xs = [.int i] ∧ Q (.int i) H) ∨ ∃ k, xs = [.bl k] ∧ Q (.int (if k then 1 else 0)) H) cInt := by
  rintro F H G xs ds Q Q' hG il (⟨i, rfl, q⟩ | ⟨b, rfl, q⟩) k
  · obtain ⟨v, rfl, iv⟩ := isL_one il
    exact .inl ⟨i, by rw [is_int.mp iv], k.fin hG (is_int.mpr rfl) q⟩
  · obtain ⟨v, rfl, iv⟩ := isL_one il
    exact .inr ⟨b, by rw [is_bl.mp iv], k.fin hG (is_int.mpr rfl) q⟩
def cMin2 : List D → Gp → DK → Prop := fun xs G Q => ∃ i j : Int, xs = [.int i, .int j] ∧ Q (.int (min i j)) G
def cMax2 : List D → Gp → DK → Prop := fun xs G Q => ∃ i j : Int, xs = [.int i, .int j] ∧ Q (.int (max i j)) G
theorem sc_min2 : SC (fun xs H Q => ∃ i j, xs = [.int i, .int j] ∧ Q (.int (if j < i then j else i)) H) cMin2 := by
  rintro F H G xs ds Q Q' hG il ⟨i, j, rfl, q⟩ k
  obtain ⟨v, w, rfl, iv, iw⟩ := isL_two il
  refine ⟨i, j, by rw [is_int.mp iv, is_int.mp iw], ?_⟩
  have e : (if j < i then j else i) = min i j := by
    split <;> omega
  rw [e]
  exact k.fin hG (is_int.mpr rfl) q
def tyD (T : String) (G : Gp) (x : D) : Prop := (T = "list" ∧ ∃ ds, lstOf G x = some ds) ∨ (T = "dict" ∧ ∃ p, x = .ref p ∧ ((∃ kvs, G p = some (.sm (.dK kvs))) ∨ ∃ kvs, G p = some (.sm (.dT kvs))))
theorem tyD_ok {F : Fz} {H : Hp} {G : Gp} {T : String} {x : D} {v : V} (hG : Hg F H G) (i : Is F H x v) (h : tyD T G x) : tyV K T v H := by
  rcases h with ⟨rfl, ds, hl⟩ | ⟨rfl, p, rfl, h⟩
  · obtain ⟨a, vs, rfl, h1, h2⟩ := lstOf_ok hG i hl
    exact .inl ⟨rfl, vs, .inl (.inl h1)⟩
  · rw [is_ref.mp i]
    refine .inr (.inr (.inl ⟨rfl, ?_⟩))
    rcases h with ⟨kvs, h⟩ | ⟨kvs, h⟩
    · obtain ⟨z, hz, vs, rfl, hl⟩ := hG.get h
      exact .inl ⟨vs, hz⟩
    · obtain ⟨z, hz, vs, rfl, hl⟩ := hG.get h
      exact .inr ⟨vs, hz⟩
def dBM (T : String) (r : D → List D → Gp → DK → Prop) (to : DE) (t : DA) : DE := fun s G Q => to s G fun x G1 => tyD T G1 x ∧ t s G1 fun xs G2 => r x xs G2 Q
def dBM0 (T : String) (r : D → List D → Gp → DK → Prop) (to : DE) : DE := fun s G Q => to s G fun x G1 => tyD T G1 x ∧ r x [] G1 Q
theorem qe_bm {o e : Expr} {es : List Expr} {name : Str} {apos cpos : Pos} {T id : String} {r : V → List V → Hp → VK → Prop} {r' : D → List D → Gp → DK → Prop} {to : DE} {t : DA} (pa : PlainAttrs T) (slot : Slot T name id) (hty : typeOf (.builtin id) = pure (.type "method_descriptor")) (hm : MtR X id r) (sm : SM r r') (ho : QE X o to) (ha : QA X (e :: es) t)
    (hbase : attributeBase o name X.env (eval o X.env) = eval o X.env := by rfl)
    (hfew : ((backTo cpos (starEach (e :: es) X.env)).all (fun x => !x.1) && (backToKw cpos (keywordEach [] X.env)).all (fun x => x.1.isSome)
      && decide ((e :: es).length + ([] : List Keyword).length + (if ([] : List Keyword).isEmpty then 0 else 1) < 30)) = true := by rfl)
    (hline : (apos.endLine == cpos.line) = true := by rfl) (hs : starEach (e :: es) X.env = (false, eval e X.env) :: starEach es X.env := by rfl) (hplain : (backTo cpos (starEach es X.env)).any (·.1) = false := by rfl) :
    QE X (.Call (.Attribute o name apos) (e :: es) [] cpos) (dBM T r' to t) := PE.weak (pe_bm pa slot hty hm ho ha hbase hfew hline hs hplain) fun σ H Q h => by
  obtain ⟨F, s, G, Q', hs, hg, h, k⟩ := h
  refine lE_b hs hg h fun v H1 F1 d G1 e1 s1 g1 i1 ⟨ty, h1⟩ => ⟨tyD_ok g1 i1 ty, ?_⟩
  exact lA_b s1 g1 h1 fun vs H2 F2 ds G2 e2 s2 g2 i2 q2 => sm F2 H2 G2 v vs d ds Q Q' g2 (i1.mono e2) i2 q2 (k.step (e1.trans e2))
theorem qe_bm0 {o : Expr} {name : Str} {apos cpos : Pos} {T id : String} {r : V → List V → Hp → VK → Prop} {r' : D → List D → Gp → DK → Prop} {to : DE} (pa : PlainAttrs T) (slot : Slot T name id) (hty : typeOf (.builtin id) = pure (.type "method_descriptor")) (hm : MtR X id r) (sm : SM r r') (ho : QE X o to)
    (hbase : attributeBase o name X.env (eval o X.env) = eval o X.env := by rfl) (hline : (apos.endLine == cpos.line) = true := by rfl) :
    QE X (.Call (.Attribute o name apos) [] [] cpos) (dBM0 T r' to) := PE.weak (pe_bm0 pa slot hty hm ho hbase hline) fun σ H Q h => by
  obtain ⟨F, s, G, Q', hs, hg, h, k⟩ := h
  exact lE_b hs hg h fun v H1 F1 d G1 e1 s1 g1 i1 ⟨ty, h1⟩ => ⟨tyD_ok g1 i1 ty, sm F1 H1 G1 v [] d [] Q Q' g1 i1 IsL.nil h1 (k.step e1)⟩
/-- an owned list is changed -/
theorem Kc.setL {F : Fz} {H : Hp} {Q : VK} {Q' : DK} {G : Gp} (k : Kc F H Q Q') (hg : Hg F H G) {p : Addr} {ds es : List D} {us : List V} (h : G p = some (.sm (.lst ds))) (hl : IsL F H es us) {d : D} {v : V} (hd : Is F H d v) (q : Q' d (ud G p (.sm (.lst es)))) : Q v (upd H p (.lst us)) := by
  have e5 := ext_own (z := .lst us) hg h
  exact k _ _ F _ _ e5 (hg.set (o' := .lst es) h ⟨_, rfl, hl.mono e5⟩) (hd.mono e5) q
def mAppend : D → List D → Gp → DK → Prop := fun x vs G Q => ∃ p ds y, x = .ref p ∧ vs = [y] ∧ G p = some (.sm (.lst ds)) ∧ ds.length < 100000 ∧ Q .non (ud G p (.sm (.lst (ds ++ [y]))))
theorem sm_append : SM rAppend mAppend := by
  rintro F H G x xs d es Q Q' hG ix il ⟨p, ds, y, rfl, rfl, hp, hz, q⟩ k
  obtain ⟨v, rfl, iv⟩ := isL_one il
  obtain ⟨z, hz2, vs, rfl, hl⟩ := hG.get hp
  exact ⟨p, vs, v, is_ref.mp ix, rfl, hz2, by rw [hl.length]; exact sz_lt hz, k.setL hG hp (hl.append (IsL.cons iv IsL.nil)) (is_non.mpr rfl) q⟩
def mExtend : D → List D → Gp → DK → Prop := fun x vs G Q => ∃ p ds y es, x = .ref p ∧ vs = [y] ∧ G p = some (.sm (.lst ds)) ∧ lstOf G y = some es ∧ ds.length + es.length ≤ 100000 ∧ Q .non (ud G p (.sm (.lst (ds ++ es))))
theorem sm_extend : SM rExtend mExtend := by
  rintro F H G x xs d es Q Q' hG ix il ⟨p, ds, y, fs, rfl, rfl, hp, hy, hz, q⟩ k
  obtain ⟨v, rfl, iv⟩ := isL_one il
  obtain ⟨z, hz2, vs, rfl, hl⟩ := hG.get hp
  obtain ⟨b, us, rfl, h3, h4⟩ := lstOf_ok hG iv hy
  exact ⟨p, b, vs, us, is_ref.mp ix, rfl, hz2, h3, by rw [hl.length, h4.length]; exact sz_ok hz, k.setL hG hp (hl.append h4) (is_non.mpr rfl) q⟩
theorem IsL.dropLast {F : Fz} {H : Hp} {ds : List D} {vs : List V} (h : IsL F H ds vs) : IsL F H ds.dropLast vs.dropLast := by
  rw [List.dropLast_eq_take, List.dropLast_eq_take, h.length]
  exact h.take _
def mPop : D → List D → Gp → DK → Prop := fun x vs G Q => ∃ p ds y, x = .ref p ∧ vs = [] ∧ G p = some (.sm (.lst ds)) ∧ ds[ds.length - 1]? = some y ∧ Q y (ud G p (.sm (.lst ds.dropLast)))
theorem sm_pop : SM rPop mPop := by
  rintro F H G x xs d es Q Q' hG ix il ⟨p, ds, y, rfl, rfl, hp, hy, q⟩ k
  obtain ⟨z, hz2, vs, rfl, hl⟩ := hG.get hp
  obtain ⟨v, h1, h2⟩ := hl.get hy
  exact ⟨p, vs, v, is_ref.mp ix, isL_nil.mp il, hz2, by rw [hl.length]; exact h1, k.setL hG hp hl.dropLast h2 q⟩
theorem IsL.erase {F : Fz} {H : Hp} : ∀ {ds : List D} {vs : List V} (i : Nat), IsL F H ds vs → IsL F H (ds.eraseIdx i) (vs.eraseIdx i)
  | [], vs, i, h => by
    rw [isL_nil.mp h]
    exact IsL.nil
  | x :: ds, vs, 0, h => by
    obtain ⟨w, r, rfl, h3, h4⟩ := isL_cons.mp h
    exact h4
  | x :: ds, vs, i + 1, h => by
    obtain ⟨w, r, rfl, h3, h4⟩ := isL_cons.mp h
    exact IsL.cons h3 (IsL.erase i h4)
/-- xs.pop(j), 0 ≤ j -/
def mPopAt : D → List D → Gp → DK → Prop := fun x vs G Q => ∃ p ds i y, x = .ref p ∧ vs = [.int i] ∧ G p = some (.sm (.lst ds)) ∧ 0 ≤ i ∧ i < 2 ^ 62 ∧ ds[i.toNat]? = some y ∧ Q y (ud G p (.sm (.lst (ds.eraseIdx i.toNat))))
theorem sm_popAt : SM rPopAt mPopAt := by
  rintro F H G x xs d es Q Q' hG ix il ⟨p, ds, i, y, rfl, rfl, hp, h0, h62, hy, q⟩ k
  obtain ⟨v, rfl, iv⟩ := isL_one il
  obtain ⟨z, hz2, vs, rfl, hl⟩ := hG.get hp
  obtain ⟨w, h1, h2⟩ := hl.get hy
  have hlt : i.toNat < vs.length := by
    rcases Nat.lt_or_ge i.toNat vs.length with z | z
    · exact z
    · rw [List.getElem?_eq_none z] at h1
      cases h1
  refine ⟨p, vs, i, i.toNat, w, is_ref.mp ix, by rw [is_int.mp iv], hz2, by omega, by omega, ?_, h1, k.setL hG hp (hl.erase _) h2 q⟩
  have e : ixN vs.length i = some i.toNat := by
    unfold ixN
    rw [if_pos h0, if_pos (by omega)]
  exact (ixN_seq e).1
def mInsert : D → List D → Gp → DK → Prop := fun x vs G Q => ∃ p ds i y, x = .ref p ∧ vs = [.int i, y] ∧ G p = some (.sm (.lst ds)) ∧ ds.length < 100000 ∧ 0 ≤ i ∧ i < 2 ^ 62 ∧ Q .non (ud G p (.sm (.lst (ds.take i.toNat ++ [y] ++ ds.drop i.toNat))))
theorem sm_insert : SM (fun x vs H Q => ∃ (l : Addr) (xs : List V) (i : Int) (y : V), x = .ref l ∧ vs = [.int i, y] ∧ H l = some (.lst xs) ∧ xs.length < sizeLine ∧ 0 ≤ i ∧ i < 2 ^ 63 ∧ Q .non (upd H l (.lst (xs.take i.toNat ++ [y] ++ xs.drop i.toNat)))) mInsert := by
  rintro F H G x xs d es Q Q' hG ix il ⟨p, ds, i, y, rfl, rfl, hp, hz, h0, h62, q⟩ k
  obtain ⟨v, w, rfl, iv, iw⟩ := isL_two il
  obtain ⟨z, hz2, vs, rfl, hl⟩ := hG.get hp
  exact ⟨p, vs, i, w, is_ref.mp ix, by rw [is_int.mp iv], hz2, by rw [hl.length]; exact sz_lt hz, h0, by omega, k.setL hG hp (((hl.take _).append (IsL.cons iw IsL.nil)).append (hl.drop _)) (is_non.mpr rfl) q⟩
mutual
def toP : D → PyData
  | .non => .none
  | .bl b => .bool b
  | .int i => .int i
  | .str x => .str x
  | .tup ds => .tuple (toPs ds)
  | .lst ds => .list (toPs ds)
  | .ref _ => .none
def toPs : List D → List PyData
  | [] => []
  | d :: ds => toP d :: toPs ds
end
/-- no thing that may change within, no truth values; n deep -/
def pl : Nat → D → Bool
  | _ + 1, .non => true
  | _ + 1, .int _ => true
  | _ + 1, .str x => PyData.strOk x
  | n + 1, .tup ds => ds.all (pl n)
  | n + 1, .lst ds => ds.all (pl n)
  | _, _ => false
theorem dp_of {F : Fz} {H : Hp} : ∀ {n : Nat} {d : D} {v : V}, pl n d = true → Is F H d v → Dp K H v (toP d)
  | 0, d, v, h, i => by cases d <;> cases h
  | n + 1, d, v, h, i => by
    have all : ∀ {ds : List D} {vs : List V}, ds.all (pl n) = true → IsL F H ds vs → DpAll K H vs (toPs ds) := by
      intro ds
      induction ds with
      | nil =>
        intro vs _ il
        rw [isL_nil.mp il, toPs]
        exact .nil
      | cons d ds ih =>
        intro vs h il
        obtain ⟨v, r, rfl, iv, ir⟩ := isL_cons.mp il
        rw [List.all_cons, Bool.and_eq_true] at h
        rw [toPs]
        exact .cons (dp_of h.1 iv) (ih h.2 ir)
    cases d with
    | non => rw [is_non.mp i, toP]; exact .non
    | bl b => cases h
    | int j => rw [is_int.mp i, toP]; exact .int j
    | str x => rw [is_str.mp i, toP]; exact .str x
    | ref a => cases h
    | tup ds =>
      obtain ⟨a, vs, rfl, h1, h2⟩ := is_tup.mp i
      rw [toP]
      exact .tup (.inl (.inl h1)) (all h h2)
    | lst ds =>
      obtain ⟨a, vs, rfl, h0, h1, h2⟩ := is_lst.mp i
      rw [toP]
      exact .lst (.inl (.inl h1)) (all h h2)
theorem lay_of : ∀ {n : Nat} {d : D}, pl n d = true → (toP d).canLay0 = true ∧ (toP d).depth ≤ n
  | 0, d, h => by cases d <;> cases h
  | n + 1, d, h => by
    have all : ∀ {ds : List D}, ds.all (pl n) = true → PyData.canLayAll0 (toPs ds) = true ∧ PyData.depthAll (toPs ds) ≤ n := by
      intro ds
      induction ds with
      | nil =>
        intro _
        rw [toPs]
        exact ⟨rfl, Nat.zero_le _⟩
      | cons d ds ih =>
        intro h
        rw [List.all_cons, Bool.and_eq_true] at h
        rw [toPs]
        obtain ⟨h1, h2⟩ := lay_of h.1
        obtain ⟨h3, h4⟩ := ih h.2
        refine ⟨?_, ?_⟩
        · rw [PyData.canLayAll0, h1, h3]; rfl
        · rw [PyData.depthAll]; exact Nat.max_le.mpr ⟨h2, h4⟩
    cases d with
    | non => rw [toP]; exact ⟨rfl, Nat.zero_le _⟩
    | bl b => cases h
    | int j => rw [toP]; exact ⟨rfl, Nat.zero_le _⟩
    | str x => rw [toP]; exact ⟨h, Nat.zero_le _⟩
    | ref a => cases h
    | tup ds =>
      obtain ⟨h1, h2⟩ := all h
      rw [toP]
      exact ⟨by rw [PyData.canLay0]; exact h1, by rw [PyData.depth]; omega⟩
    | lst ds =>
      obtain ⟨h1, h2⟩ := all h
      rw [toP]
      exact ⟨by rw [PyData.canLay0]; exact h1, by rw [PyData.depth]; omega⟩
theorem shaped_of {n : Nat} {d : D} (h : pl n d = true) (hn : n ≤ 64) : SeqAt.shaped (toP d) = true := by
  obtain ⟨h1, h2⟩ := lay_of h
  unfold SeqAt.shaped
  rw [h1, decide_eq_true (Nat.le_trans h2 hn)]
  rfl
mutual
theorem eqv_iff : ∀ {n m : Nat} (d e : D), pl n d = true → pl m e = true → (PyData.eqv (toP d) (toP e) = true ↔ d = e)
  | 0, _, d, _, h, _ => by cases d <;> cases h
  | _, 0, _, e, _, h => by cases e <;> cases h
  | n + 1, m + 1, .non, e, h, h' => by cases e <;> first | (simp [toP, PyData.eqv]; done) | (cases h'; done)
  | n + 1, m + 1, .bl _, e, h, h' => by cases h
  | n + 1, m + 1, .ref _, e, h, h' => by cases h
  | n + 1, m + 1, .int i, e, h, h' => by cases e <;> first | (simp [toP, PyData.eqv]; done) | (cases h'; done)
  | n + 1, m + 1, .str i, e, h, h' => by cases e <;> first | (simp [toP, PyData.eqv]; done) | (cases h'; done)
  | n + 1, m + 1, .tup ds, e, h, h' => by
    cases e with
    | tup es =>
      rw [toP, toP, PyData.eqv, eqvs_iff ds es h h']
      exact ⟨fun z => by rw [z], fun z => D.tup.inj z⟩
    | _ => first | (simp [toP, PyData.eqv]; done) | (cases h'; done)
  | n + 1, m + 1, .lst ds, e, h, h' => by
    cases e with
    | lst es =>
      rw [toP, toP, PyData.eqv, eqvs_iff ds es h h']
      exact ⟨fun z => by rw [z], fun z => D.lst.inj z⟩
    | _ => first | (simp [toP, PyData.eqv]; done) | (cases h'; done)
theorem eqvs_iff : ∀ {n m : Nat} (ds es : List D), ds.all (pl n) = true → es.all (pl m) = true → (PyData.eqvAll (toPs ds) (toPs es) = true ↔ ds = es)
  | _, _, [], [], _, _ => by rw [toPs, PyData.eqvAll]; simp
  | _, _, [], e :: es, _, _ => by rw [toPs, toPs, PyData.eqvAll]; simp
  | _, _, d :: ds, [], _, _ => by rw [toPs, toPs, PyData.eqvAll]; simp
  | n, m, d :: ds, e :: es, h, h' => by
    rw [List.all_cons, Bool.and_eq_true] at h h'
    rw [toPs, toPs, PyData.eqvAll, Bool.and_eq_true, eqv_iff d e h.1 h'.1, eqvs_iff ds es h.2 h'.2, List.cons.injEq]
end
/-- the data of a value: a list's items, if it is owned -/
def valOf (G : Gp) : D → Option D
  | .ref p => (lstG (G p)).map D.lst
  | d => some d
theorem val_ref {G : Gp} {p : Addr} {ds : List D} (h : G p = some (.sm (.lst ds))) : valOf G (.ref p) = some (.lst ds) := by
  show (lstG (G p)).map D.lst = _
  rw [h]
  rfl
theorem dp_val {F : Fz} {H : Hp} {G : Gp} (hG : Hg F H G) {n : Nat} {x d : D} {v : V} (i : Is F H x v) (e : valOf G x = some d) (h : pl (n + 1) d = true) : Dp K H v (toP d) := by
  cases x with
  | ref p =>
    have e : (lstG (G p)).map D.lst = some d := e
    cases q : lstG (G p) with
    | none =>
      rw [q] at e
      cases e
    | some ds =>
      rw [q] at e
      cases (show some (D.lst ds) = some d from e)
      obtain ⟨z, hz, vs, rfl, hl⟩ := hG.get (lst_own q)
      rw [is_ref.mp i, toP]
      have all : ∀ {ds : List D} {vs : List V}, ds.all (pl n) = true → IsL F H ds vs → DpAll K H vs (toPs ds) := by
        intro ds
        induction ds with
        | nil =>
          intro vs _ il
          rw [isL_nil.mp il, toPs]
          exact .nil
        | cons d ds ih =>
          intro vs h il
          obtain ⟨v, r, rfl, iv, ir⟩ := isL_cons.mp il
          rw [List.all_cons, Bool.and_eq_true] at h
          rw [toPs]
          exact .cons (dp_of h.1 iv) (ih h.2 ir)
      exact .lst (.inl (.inl hz)) (all h hl)
  | non => cases (show some D.non = some d from e); exact dp_of h i
  | bl b => cases (show some (D.bl b) = some d from e); exact dp_of h i
  | int b => cases (show some (D.int b) = some d from e); exact dp_of h i
  | str b => cases (show some (D.str b) = some d from e); exact dp_of h i
  | tup b => cases (show some (D.tup b) = some d from e); exact dp_of h i
  | lst b => cases (show some (D.lst b) = some d from e); exact dp_of h i
def eEqD : DR2 := fun x y G Q => ∃ d e, valOf G x = some d ∧ valOf G y = some e ∧ pl 9 d = true ∧ pl 9 e = true ∧ ∀ b : Bool, (b = true ↔ d = e) → Q (.bl b) G
def eNeD : DR2 := fun x y G Q => ∃ d e, valOf G x = some d ∧ valOf G y = some e ∧ pl 9 d = true ∧ pl 9 e = true ∧ ∀ b : Bool, (b = true ↔ d = e) → Q (.bl (!b)) G
theorem sr_eqD : SR (rEqD K) eEqD := by
  rintro F H G x y dx dy Q Q' hG ix iy ⟨d, e, hd, he, pd, pe, q⟩ k
  exact ⟨_, _, dp_val hG ix hd pd, dp_val hG iy he pe, shaped_of pd (by decide), shaped_of pe (by decide), k.fin hG (is_bl.mpr rfl) (q _ (eqv_iff d e pd pe))⟩
theorem sr_neD : SR (rNeD K) eNeD := by
  rintro F H G x y dx dy Q Q' hG ix iy ⟨d, e, hd, he, pd, pe, q⟩ k
  exact ⟨_, _, dp_val hG ix hd pd, dp_val hG iy he pe, shaped_of pd (by decide), shaped_of pe (by decide), k.fin hG (is_bl.mpr rfl) (q _ (eqv_iff d e pd pe))⟩
theorem any_iff {d : D} (hd : pl 9 d = true) : ∀ {ds : List D}, ds.all (pl 8) = true → (((toPs ds).any fun z => PyData.eqv z (toP d)) = true ↔ d ∈ ds)
  | [], _ => by rw [toPs]; simp
  | e :: ds, h => by
    rw [List.all_cons, Bool.and_eq_true] at h
    rw [toPs, List.any_cons, Bool.or_eq_true, any_iff hd h.2, eqv_iff e d h.1 hd, List.mem_cons]
    exact ⟨fun z => z.elim (fun q => .inl q.symm) .inr, fun z => z.elim (fun q => .inl q.symm) .inr⟩
/-- x in a list, of data -/
def eInD (neg : Bool) : DR2 := fun x y G Q => ∃ ds, lstOf G y = some ds ∧ pl 9 x = true ∧ ds.all (pl 8) = true ∧ ∀ b : Bool, (b = true ↔ x ∈ ds) → Q (.bl (neg ^^ b)) G
theorem dp_lst {F : Fz} {H : Hp} {G : Gp} (hG : Hg F H G) {n : Nat} {x : D} {v : V} {ds : List D} (i : Is F H x v) (e : lstOf G x = some ds) (h : ds.all (pl n) = true) : Dp K H v (.list (toPs ds)) := by
  obtain ⟨a, vs, rfl, h1, h2⟩ := lstOf_ok hG i e
  have all : ∀ {ds : List D} {vs : List V}, ds.all (pl n) = true → IsL F H ds vs → DpAll K H vs (toPs ds) := by
    intro ds
    induction ds with
    | nil =>
      intro vs _ il
      rw [isL_nil.mp il, toPs]
      exact .nil
    | cons d ds ih =>
      intro vs h il
      obtain ⟨v, r, rfl, iv, ir⟩ := isL_cons.mp il
      rw [List.all_cons, Bool.and_eq_true] at h
      rw [toPs]
      exact .cons (dp_of h.1 iv) (ih h.2 ir)
  exact .lst (.inl (.inl h1)) (all h h2)
theorem sr_inD : SR (rInD K) (eInD false) := by
  rintro F H G x y dx dy Q Q' hG ix iy ⟨ds, hl, px, pds, q⟩ k
  have hp : pl 9 (.lst ds) = true := pds
  have z := shaped_of hp (by decide)
  rw [toP] at z
  refine ⟨_, _, dp_of px ix, dp_lst hG iy hl pds, shaped_of px (by decide), z, ?_⟩
  have q2 := q _ (any_iff px pds)
  rw [Bool.false_xor] at q2
  exact k.fin hG (is_bl.mpr rfl) q2
theorem sr_notInD : SR (rNotInD K) (eInD true) := by
  rintro F H G x y dx dy Q Q' hG ix iy ⟨ds, hl, px, pds, q⟩ k
  have hp : pl 9 (.lst ds) = true := pds
  have z := shaped_of hp (by decide)
  rw [toP] at z
  refine ⟨_, _, dp_of px ix, dp_lst hG iy hl pds, shaped_of px (by decide), z, ?_⟩
  have q2 := q _ (any_iff px pds)
  rw [Bool.true_xor] at q2
  exact k.fin hG (is_bl.mpr rfl) q2
/-- x in a tuple or a list of numbers, texts, None -/
def flD : D → Bool
  | .non => true
  | .int _ => true
  | .str _ => true
  | _ => false
def eInF (neg : Bool) : DR2 := fun x y G Q => ∃ ds, (lstOf G y = some ds ∨ y = .tup ds) ∧ flD x = true ∧ ds.all flD = true ∧ ∀ b : Bool, (b = true ↔ x ∈ ds) → Q (.bl (neg ^^ b)) G
theorem fl_ok {F : Fz} {H : Hp} {d : D} {v : V} (h : flD d = true) (i : Is F H d v) : flatV v = true := by
  cases d with
  | non => rw [is_non.mp i]; rfl
  | int j => rw [is_int.mp i]; rfl
  | str j => rw [is_str.mp i]; rfl
  | _ => cases h
theorem fl_all {F : Fz} {H : Hp} : ∀ {ds : List D} {vs : List V}, ds.all flD = true → IsL F H ds vs → vs.all flatV = true
  | [], vs, _, il => by rw [isL_nil.mp il]; rfl
  | d :: ds, vs, h, il => by
    obtain ⟨v, r, rfl, iv, ir⟩ := isL_cons.mp il
    rw [List.all_cons, Bool.and_eq_true] at h
    rw [List.all_cons, fl_ok h.1 iv, fl_all h.2 ir]
    rfl
theorem fl_eq {F : Fz} {H : Hp} {d e : D} {v w : V} (hd : flD d = true) (he : flD e = true) (i : Is F H d v) (j : Is F H e w) : (eqV v w = true ↔ e = d) := by
  cases d with
  | non =>
    rw [is_non.mp i]
    cases e with
    | non => rw [is_non.mp j]; simp [eqV]
    | int z => rw [is_int.mp j]; simp [eqV]
    | str z => rw [is_str.mp j]; simp [eqV]
    | _ => cases he
  | int a =>
    rw [is_int.mp i]
    cases e with
    | non => rw [is_non.mp j]; simp [eqV]
    | int z => rw [is_int.mp j]; simp [eqV]; exact ⟨fun q => q.symm, fun q => q.symm⟩
    | str z => rw [is_str.mp j]; simp [eqV]
    | _ => cases he
  | str a =>
    rw [is_str.mp i]
    cases e with
    | non => rw [is_non.mp j]; simp [eqV]
    | int z => rw [is_int.mp j]; simp [eqV]
    | str z => rw [is_str.mp j]; simp [eqV]; exact ⟨fun q => q.symm, fun q => q.symm⟩
    | _ => cases he
  | _ => cases hd
theorem fl_any {F : Fz} {H : Hp} {d : D} {v : V} (hd : flD d = true) (i : Is F H d v) : ∀ {ds : List D} {vs : List V}, ds.all flD = true → IsL F H ds vs → (inV v vs = true ↔ d ∈ ds)
  | [], vs, _, il => by rw [isL_nil.mp il]; simp [inV]
  | e :: ds, vs, h, il => by
    obtain ⟨w, r, rfl, iw, ir⟩ := isL_cons.mp il
    rw [List.all_cons, Bool.and_eq_true] at h
    have ih := fl_any hd i h.2 ir
    unfold inV at ih ⊢
    rw [List.any_cons, Bool.or_eq_true, ih, fl_eq h.1 hd iw i, List.mem_cons]
theorem sr_inF {neg : Bool} : SR (rIn K neg) (eInF neg) := by
  rintro F H G x y dx dy Q Q' hG ix iy ⟨ds, hy, px, pds, q⟩ k
  have fin : ∀ vs : List V, IsL F H ds vs → Q (.bl (if neg then !inV x vs else inV x vs)) H := fun vs il => by
    have q2 := q _ (fl_any px ix pds il)
    cases neg with
    | true => exact k.fin hG (is_bl.mpr rfl) (by rw [Bool.true_xor] at q2; exact q2)
    | false => exact k.fin hG (is_bl.mpr rfl) (by rw [Bool.false_xor] at q2; exact q2)
  rcases hy with hy | rfl
  · obtain ⟨a, vs, rfl, h1, h2⟩ := lstOf_ok hG iy hy
    exact ⟨a, vs, rfl, .inl (.inl (.inl h1)), fl_ok px ix, fl_all pds h2, fin vs h2⟩
  · obtain ⟨a, vs, rfl, h1, h2⟩ := is_tup.mp iy
    exact ⟨a, vs, rfl, .inr (.inl (.inl h1)), fl_ok px ix, fl_all pds h2, fin vs h2⟩
end
end Dg
namespace Dg
open PySem PySem.Spec L2
open PyProof.Rows (envOfC)
section
variable {X : Cx} {K : PySem.W.Frag}
section
variable {elt tg l : Expr} {ifs : List Expr} {scope : Scope} {own : List (Str × Nat)} {pos : Pos} {tl : DE} {ta : DA} {c : CT} {tt : DT} {tt' : TT} {te : DE}
theorem qe_lcL (hc : X.calm = true) (hN : X.N.Nodup) (hl : QE X l tl) (ok : BlkOk X.N X.env.scope scope own)
    (hg : ∀ (s : Shared) (H : Hp) (C : Addr) (cl : List (Str × Addr)) (fp : List Addr), PG (X.blk s H scope (compEnvC scope cl C X.env) fp) tg (c.g X.K)) (ht : ∀ (s : Shared) (H : Hp) (C : Addr) (cl : List (Str × Addr)) (fp : List Addr), PTs (X.blk s H scope (compEnvC scope cl C X.env) fp) ifs tt')
    (htt : ∀ σ H Q, lT tt σ H Q → tt' σ H Q) (he : ∀ (s : Shared) (H : Hp) (C : Addr) (cl : List (Str × Addr)) (fp : List Addr), QE (X.blk s H scope (compEnvC scope cl C X.env) fp) elt te) (hcv : ∀ i ∈ c.sl, i ∈ own.map (·.2)) (hs : ∀ x, foldedSetIterable l X.env x = pure x := by intro _; rfl) :
    QE X (.ListComp elt [⟨tg, l, ifs, 0⟩] scope pos) (dLcL tl c tt te (own.map (·.2))) := PE.weak (pe_lc hc hN (pi_list hl) ok hg ht he hs) fun _ _ _ z => lE_lcL htt hcv z
theorem qe_lcR1 {a : Expr} {p pos2 : Pos} (hc : X.calm = true) (hN : X.N.Nodup) (hgl : Gl X "range") (hm : X.mg "range" = none) (ha : QA X [a] ta) (ok : BlkOk X.N X.env.scope scope own)
    (hg : ∀ (s : Shared) (H : Hp) (C : Addr) (cl : List (Str × Addr)) (fp : List Addr), PG (X.blk s H scope (compEnvC scope cl C X.env) fp) tg (c.g X.K)) (ht : ∀ (s : Shared) (H : Hp) (C : Addr) (cl : List (Str × Addr)) (fp : List Addr), PTs (X.blk s H scope (compEnvC scope cl C X.env) fp) ifs tt')
    (htt : ∀ σ H Q, lT tt σ H Q → tt' σ H Q) (he : ∀ (s : Shared) (H : Hp) (C : Addr) (cl : List (Str × Addr)) (fp : List Addr), QE (X.blk s H scope (compEnvC scope cl C X.env) fp) elt te) (hcv : ∀ i ∈ c.sl, i ∈ own.map (·.2))
    (hs1 : starEach [a] X.env = [(false, eval a X.env)] := by rfl) (hs : ∀ x, foldedSetIterable (.Call (.Name "range" p) [a] [] pos2) X.env x = pure x := by intro _; rfl) :
    QE X (.ListComp elt [⟨tg, .Call (.Name "range" p) [a] [] pos2, ifs, 0⟩] scope pos) (dLcR1 ta c tt te (own.map (·.2))) := PE.weak (pe_lc hc hN (pi_range1 hgl hm ha hs1) ok hg ht he hs) fun _ _ _ z => lE_lcR1 htt hcv z
theorem asg_b {t : DE} {te' : TE} (h1 : ∀ σ H Q, lE t σ H Q → te' σ H Q) {i : Nat} {E : Ends} {σ : St} {H : Hp} (h : lS (dAsg t (hName i)) E σ H) : tAsg te' (gName i) E σ H := by
  obtain ⟨F, s, G, E', hs, hg, h, k⟩ := h
  exact lE_bind h1 hs hg h fun v H1 F1 d G1 e1 s1 g1 i1 q => k.nx _ H1 F1 _ G1 e1 (s1.set i i1) g1 q
variable {i : Nat} {y : Str} {py spos : Pos}
theorem qs_setLcL (hc : X.calm = true) (hN : X.N.Nodup) (hy : X.N[i]? = some y) (hyl : X.env.scope.names.lookup y = some .local) (hsw : swapsWith (.ListComp elt [⟨tg, l, ifs, 0⟩] scope pos) (some (.Name y py)) spos.line X.env = pure true) (hl : QE X l tl) (ok : BlkOk X.N X.env.scope scope own)
    (hg : ∀ (s : Shared) (H : Hp) (C : Addr) (cl : List (Str × Addr)) (fp : List Addr), PG (X.blk s H scope (compEnvC scope cl C X.env) fp) tg (c.g X.K)) (ht : ∀ (s : Shared) (H : Hp) (C : Addr) (cl : List (Str × Addr)) (fp : List Addr), PTs (X.blk s H scope (compEnvC scope cl C X.env) fp) ifs tt')
    (htt : ∀ σ H Q, lT tt σ H Q → tt' σ H Q) (he : ∀ (s : Shared) (H : Hp) (C : Addr) (cl : List (Str × Addr)) (fp : List Addr), QE (X.blk s H scope (compEnvC scope cl C X.env) fp) elt te) (hcv : ∀ i ∈ c.sl, i ∈ own.map (·.2)) (hs : ∀ x, foldedSetIterable l X.env x = pure x := by intro _; rfl) :
    QS X (.Assign [.Name y py] (.ListComp elt [⟨tg, l, ifs, 0⟩] scope pos) spos) (dAsg (dLcL tl c tt te (own.map (·.2))) (hName i)) :=
  PS.weak (ps_setLc hc hN hy hyl hsw (pi_list hl) ok hg ht he hs) fun _ _ _ z => asg_b (fun _ _ _ z => lE_lcL htt hcv z) z
theorem qs_setLcR1 {a : Expr} {p pos2 : Pos} (hc : X.calm = true) (hN : X.N.Nodup) (hy : X.N[i]? = some y) (hyl : X.env.scope.names.lookup y = some .local) (hsw : swapsWith (.ListComp elt [⟨tg, .Call (.Name "range" p) [a] [] pos2, ifs, 0⟩] scope pos) (some (.Name y py)) spos.line X.env = pure true) (hgl : Gl X "range") (hm : X.mg "range" = none) (ha : QA X [a] ta) (ok : BlkOk X.N X.env.scope scope own)
    (hg : ∀ (s : Shared) (H : Hp) (C : Addr) (cl : List (Str × Addr)) (fp : List Addr), PG (X.blk s H scope (compEnvC scope cl C X.env) fp) tg (c.g X.K)) (ht : ∀ (s : Shared) (H : Hp) (C : Addr) (cl : List (Str × Addr)) (fp : List Addr), PTs (X.blk s H scope (compEnvC scope cl C X.env) fp) ifs tt')
    (htt : ∀ σ H Q, lT tt σ H Q → tt' σ H Q) (he : ∀ (s : Shared) (H : Hp) (C : Addr) (cl : List (Str × Addr)) (fp : List Addr), QE (X.blk s H scope (compEnvC scope cl C X.env) fp) elt te) (hcv : ∀ i ∈ c.sl, i ∈ own.map (·.2))
    (hs1 : starEach [a] X.env = [(false, eval a X.env)] := by rfl) (hs : ∀ x, foldedSetIterable (.Call (.Name "range" p) [a] [] pos2) X.env x = pure x := by intro _; rfl) :
    QS X (.Assign [.Name y py] (.ListComp elt [⟨tg, .Call (.Name "range" p) [a] [] pos2, ifs, 0⟩] scope pos) spos) (dAsg (dLcR1 ta c tt te (own.map (·.2))) (hName i)) :=
  PS.weak (ps_setLc hc hN hy hyl hsw (pi_range1 hgl hm ha hs1) ok hg ht he hs) fun _ _ _ z => asg_b (fun _ _ _ z => lE_lcR1 htt hcv z) z
end
theorem tt_id {t : DT} : ∀ σ H Q, lT t σ H Q → lT t σ H Q := fun _ _ _ z => z
theorem tt_yes : ∀ σ H Q, lT dYes σ H Q → tYes σ H Q := fun _ _ _ z => yes_ok z
def startD (N : List Str) (ds : List D) : DSt := ds.map some ++ List.replicate (N.length - ds.length) none
theorem start_ok {F : Fz} {H : Hp} {N : List Str} {ds : List D} {vs : List V} (h : IsL F H ds vs) : IsS F H (startD N ds) (L2.start N vs) := by
  unfold startD L2.start
  rw [h.length]
  refine ⟨by simp [h.length], fun i d e => ?_⟩
  by_cases hi : i < ds.length
  · rw [List.getElem?_append_left (by simpa using hi), List.getElem?_map] at e
    cases q : ds[i]? with
    | none =>
      rw [q] at e
      cases e
    | some x =>
      rw [q] at e
      cases e
      obtain ⟨v, h1, h2⟩ := h.get q
      exact ⟨v, by rw [List.getElem?_append_left (by simpa [h.length] using hi), List.getElem?_map, h1]; rfl, h2⟩
  · rw [List.getElem?_append_right (by simpa using hi), List.getElem?_replicate] at e
    split at e <;> cases e
theorem fn_ok {P : Program} {w : World} {K : PySem.W.Frag} {mg : Str → Option Value} {base : Heap} {x qual : Str} {params : Arguments} {body : List Stmt} {scope : Scope} {kws : List (Str × V)} {f : Addr} {fd : FuncData} {N ps : List Str} {k : Nat} {sp : DSp} {b : DS}
    (F : FunD K x qual params body scope [] kws f fd) (S : FnScope N ps scope) (len : ∀ ds G Q, sp ds G Q → ds.length = ps.length)
    (hb : ∀ (cdv : Value) (A : Around) (outer : List Env) (s : Shared) (H : Hp) (E : XK), Room k (A.deeper (envOfC qual scope s.heap.objs.size f cdv)) → QSs (cxOf CX0 P w K mg base N qual scope f cdv A outer s H E).nox body b)
    (hr : ∀ ds G Q, sp ds G Q → vN (b { nx := fun _ G' => vR Q .non G', rt := vR Q }) (startD N ds) G) : FnOk P w K mg base CX0 (k + 1) f fd ps (lSp sp) := by
  refine F.ok S (fun vs H Q E h => ?_) (fun cdv A outer s H vs Q E hroom h => ⟨_, PSs.nox (hb cdv A outer s H E hroom), ?_⟩)
  · obtain ⟨F1, ds, G, Q', hl, hg, h, k⟩ := h
    rw [hl.length]
    exact len ds G Q' h
  · obtain ⟨F1, ds, G, Q', hl, hg, h, k⟩ := h
    obtain ⟨F2, s2, G2, e2, i2, g2, h2⟩ := hr ds G Q' h F1 H _ (start_ok hl) hg
    have k2 := k.step e2
    exact lS_b i2 g2 h2 ⟨fun σ' H' F' s' G' e i g q => k2.vR _ H' F' _ G' e g (is_non.mpr rfl) q, k2.vR, fun _ _ _ _ _ _ _ _ q => q.elim, fun _ _ _ _ _ _ _ _ q => q.elim⟩
def tyN (G : Gp) : D → Option String
  | .non => some "NoneType"
  | .bl _ => some "bool"
  | .int _ => some "int"
  | .str _ => some "str"
  | .tup _ => some "tuple"
  | .lst _ => some "list"
  | .ref p => (match lstG (G p) with
    | some _ => some "list"
    | none => none)
theorem ty_ref {G : Gp} {p : Addr} {ds : List D} (h : G p = some (.sm (.lst ds))) : tyN G (.ref p) = some "list" := by
  show (match lstG (G p) with | some _ => some "list" | none => none) = _
  rw [h]
  rfl
def dIsi (T : String) (te : DE) : DE := fun s G Q => te s G fun x G1 => ∃ U b, tyN G1 x = some U ∧ kitB U T = some b ∧ Q (.bl b) G1
def dIsi2 (T T2 : String) (te : DE) : DE := fun s G Q => te s G fun x G1 => ∃ U b b2, tyN G1 x = some U ∧ kitB U T = some b ∧ kitB U T2 = some b2 ∧ Q (.bl (b || b2)) G1
def dLenSet (te : DE) : DE := fun s G Q => te s G fun x G1 => ∃ ns : List Int, lstOf G1 x = some (ns.map D.int) ∧ ns.length < 64 ∧ ns.Nodup ∧ Q (.int (ns.length : Int)) G1
end
end Dg
namespace Dg
open PySem PySem.Spec L2
section
variable {X : Cx} {K : PySem.W.Frag}
def dNotInRng (ta tn : DE) : DE := fun s G Q => ta s G fun x G1 => tn s G1 fun y G2 => ∃ i n : Int, x = .int i ∧ y = .int n ∧ Q (.bl (!decide (0 ≤ i ∧ i < n))) G2
/-- list(range(n)) -/
def dListRng (tn : DE) : DE := fun s G Q => tn s G fun y G1 => ∃ n : Int, y = .int n ∧ 0 ≤ n ∧ n ≤ 100000 ∧ ∀ p, G1 p = none → Q (.ref p) (ud G1 p (.sm (.lst ((List.range n.toNat).map fun (i : Nat) => D.int (i : Int)))))
section
variable {κ : Type} [DecidableEq κ]
def valD (kvs : List (κ × D)) (k : κ) : Option D := (kvs.find? fun kv => decide (kv.1 = k)).map (·.2)
def putD (kvs : List (κ × D)) (k : κ) (v : D) : List (κ × D) :=
  if (kvs.any fun kv => decide (kv.1 = k)) = true then kvs.map (fun kv => if kv.1 = k then (kv.1, v) else kv) else kvs ++ [(k, v)]
def dropD (kvs : List (κ × D)) (k : κ) : List (κ × D) := kvs.filter fun kv => decide (kv.1 ≠ k)
theorem valD_pos {p : κ × D} {r : List (κ × D)} {k : κ} (e : p.1 = k) : valD (p :: r) k = some p.2 := by simp [valD, List.find?_cons, e]
theorem valD_neg {p : κ × D} {r : List (κ × D)} {k : κ} (e : ¬ p.1 = k) : valD (p :: r) k = valD r k := by simp [valD, List.find?_cons, e]
/-- what is found stands for what is found -/
def RelOD (F : Fz) (H : Hp) : Option D → Option V → Prop
  | some d, some v => Is F H d v
  | none, none => True
  | _, _ => False
theorem valD_rel {F : Fz} {H : Hp} {k : κ} : ∀ {kds : List (κ × D)} {kvs : List (κ × V)}, IsP F H kds kvs → RelOD F H (valD kds k) (valV kvs k)
  | _, _, .nil => trivial
  | p :: r, q :: t, .cons h hs => by
    by_cases e : p.1 = k
    · rw [valD_pos e, valV_pos (h.1 ▸ e)]
      exact h.2
    · rw [valD_neg e, valV_neg (fun z => e (h.1.trans z))]
      exact valD_rel hs
theorem any_rel {F : Fz} {H : Hp} {k : κ} : ∀ {kds : List (κ × D)} {kvs : List (κ × V)}, IsP F H kds kvs → (kvs.any fun kv => decide (kv.1 = k)) = (kds.any fun kv => decide (kv.1 = k))
  | _, _, .nil => rfl
  | p :: r, q :: t, .cons h hs => by
    rw [List.any_cons, List.any_cons, any_rel hs, h.1]
theorem map_rel {F : Fz} {H : Hp} {k : κ} {d : D} {v : V} (hd : Is F H d v) : ∀ {kds : List (κ × D)} {kvs : List (κ × V)}, IsP F H kds kvs → IsP F H (kds.map fun kv => if kv.1 = k then (kv.1, d) else kv) (kvs.map fun kv => if kv.1 = k then (kv.1, v) else kv)
  | _, _, .nil => .nil
  | p :: r, q :: t, .cons h hs => by
    refine .cons ?_ (map_rel hd hs)
    dsimp only
    by_cases e : p.1 = k
    · rw [if_pos e, if_pos (h.1 ▸ e)]
      exact ⟨h.1, hd⟩
    · rw [if_neg e, if_neg (fun z => e (h.1.trans z))]
      exact h
theorem app_rel {F : Fz} {H : Hp} {k : κ} {d : D} {v : V} (hd : Is F H d v) : ∀ {kds : List (κ × D)} {kvs : List (κ × V)}, IsP F H kds kvs → IsP F H (kds ++ [(k, d)]) (kvs ++ [(k, v)])
  | _, _, .nil => .cons ⟨rfl, hd⟩ .nil
  | p :: r, q :: t, .cons h hs => .cons h (app_rel hd hs)
theorem putD_rel {F : Fz} {H : Hp} {k : κ} {d : D} {v : V} (hd : Is F H d v) {kds : List (κ × D)} {kvs : List (κ × V)} (h : IsP F H kds kvs) : IsP F H (putD kds k d) (putK kvs k v) := by
  unfold putD putK
  rw [any_rel h]
  split
  · exact map_rel hd h
  · exact app_rel hd h
theorem dropD_rel {F : Fz} {H : Hp} {k : κ} : ∀ {kds : List (κ × D)} {kvs : List (κ × V)}, IsP F H kds kvs → IsP F H (dropD kds k) (dropK kvs k)
  | _, _, .nil => .nil
  | p :: r, q :: t, .cons h hs => by
    have ih := dropD_rel (k := k) hs
    unfold dropD dropK at ih ⊢
    rw [List.filter_cons, List.filter_cons]
    by_cases e : p.1 = k
    · rw [if_neg (by simp [e]), if_neg (by simp [← h.1, e])]
      exact ih
    · rw [if_pos (by simp [e]), if_pos (by simp [← h.1, e])]
      exact .cons h ih
end
/-- a key -/
def keyD : D → Option Key
  | .int i => some (.inl i)
  | .str x => some (.inr x)
  | _ => none
def keyT : D → Option (List Key)
  | .tup ds => ds.mapM keyD
  | _ => none
theorem keyD_ok {F : Fz} {H : Hp} {d : D} {v : V} {k : Key} (i : Is F H d v) (e : keyD d = some k) : v = kV k := by
  cases d with
  | int j => cases e; exact is_int.mp i
  | str j => cases e; exact is_str.mp i
  | _ => cases e
theorem keys_ok {F : Fz} {H : Hp} : ∀ {ds : List D} {vs : List V} {ks : List Key}, IsL F H ds vs → ds.mapM keyD = some ks → vs = ks.map kV
  | [], vs, ks, i, e => by
    cases (show some [] = some ks from e)
    exact isL_nil.mp i
  | d :: ds, vs, ks, i, e => by
    obtain ⟨v, r, rfl, hv, hr⟩ := isL_cons.mp i
    rw [List.mapM_cons] at e
    cases h1 : keyD d with
    | none => rw [h1] at e; cases e
    | some k =>
      rw [h1] at e
      cases h2 : ds.mapM keyD with
      | none => rw [h2] at e; cases e
      | some kr =>
        rw [h2] at e
        cases (show some (k :: kr) = some ks from e)
        rw [keyD_ok hv h1, keys_ok hr h2]
        rfl
theorem keyT_ok {F : Fz} {H : Hp} {d : D} {v : V} {k : List Key} (i : Is F H d v) (e : keyT d = some k) : ∃ b, v = .ref b ∧ H b = some (.tup (k.map kV)) := by
  cases d with
  | tup ds =>
    obtain ⟨a, vs, rfl, h1, h2⟩ := is_tup.mp i
    exact ⟨a, rfl, by rw [← keys_ok h2 e]; exact h1⟩
  | _ => cases e
def dKG : Option GO → Option (List (Key × D))
  | some (.sm (.dK kvs)) => some kvs
  | some (.sm (.lkK _ kvs)) => some kvs
  | _ => none
def dTG : Option GO → Option (List (List Key × D))
  | some (.sm (.dT kvs)) => some kvs
  | some (.sm (.lkT _ kvs)) => some kvs
  | _ => none
theorem dK_own {G : Gp} {p : Addr} {kvs : List (Key × D)} (h : G p = some (.sm (.dK kvs))) : dKG (G p) = some kvs := by rw [h]; rfl
theorem dK_lk {G : Gp} {p : Addr} {z : HO} {kvs : List (Key × D)} (h : G p = some (.sm (.lkK z kvs))) : dKG (G p) = some kvs := by rw [h]; rfl
theorem dT_own {G : Gp} {p : Addr} {kvs : List (List Key × D)} (h : G p = some (.sm (.dT kvs))) : dTG (G p) = some kvs := by rw [h]; rfl
theorem dKG_ok {F : Fz} {H : Hp} {G : Gp} (hG : Hg F H G) {p : Addr} {kds : List (Key × D)} (h : dKG (G p) = some kds) : ∃ kvs, Rd H p (.dK kvs) ∧ IsP F H kds kvs := by
  cases q : G p with
  | none => rw [q] at h; cases h
  | some x =>
    cases x with
    | cmp L => rw [q] at h; cases h
    | sm o =>
      cases o with
      | dK es =>
        rw [q] at h
        cases (show some es = some kds from h)
        obtain ⟨z, hz, vs, rfl, hl⟩ := hG.get q
        exact ⟨vs, .inl hz, hl⟩
      | lkK zz es =>
        rw [q] at h
        cases (show some es = some kds from h)
        obtain ⟨z, hz, h0, o, vs, rfl, hl⟩ := hG.get q
        exact ⟨vs, .inr ⟨o, hz⟩, hl⟩
      | _ => rw [q] at h; cases h
theorem dTG_ok {F : Fz} {H : Hp} {G : Gp} (hG : Hg F H G) {p : Addr} {kds : List (List Key × D)} (h : dTG (G p) = some kds) : ∃ kvs, Rd H p (.dT kvs) ∧ IsP F H kds kvs := by
  cases q : G p with
  | none => rw [q] at h; cases h
  | some x =>
    cases x with
    | cmp L => rw [q] at h; cases h
    | sm o =>
      cases o with
      | dT es =>
        rw [q] at h
        cases (show some es = some kds from h)
        obtain ⟨z, hz, vs, rfl, hl⟩ := hG.get q
        exact ⟨vs, .inl hz, hl⟩
      | lkT zz es =>
        rw [q] at h
        cases (show some es = some kds from h)
        obtain ⟨z, hz, h0, o, vs, rfl, hl⟩ := hG.get q
        exact ⟨vs, .inr ⟨o, hz⟩, hl⟩
      | _ => rw [q] at h; cases h
/-- what stands in a dict at a key -/
def LK (G : Gp) (x y : D) (o : Option D) : Prop := (∃ p kvs k, x = .ref p ∧ dKG (G p) = some kvs ∧ keyD y = some k ∧ o = valD kvs k) ∨ ∃ p kvs k, x = .ref p ∧ dTG (G p) = some kvs ∧ keyT y = some k ∧ o = valD kvs k
theorem LK.k {G : Gp} {p : Addr} {y : D} {kvs : List (Key × D)} {k : Key} (h : dKG (G p) = some kvs) (hk : keyD y = some k) : LK G (.ref p) y (valD kvs k) := .inl ⟨p, kvs, k, rfl, h, hk, rfl⟩
theorem LK.t {G : Gp} {p : Addr} {y : D} {kvs : List (List Key × D)} {k : List Key} (h : dTG (G p) = some kvs) (hk : keyT y = some k) : LK G (.ref p) y (valD kvs k) := .inr ⟨p, kvs, k, rfl, h, hk, rfl⟩
theorem LK_ok {F : Fz} {H : Hp} {G : Gp} (hG : Hg F H G) {x y : D} {v w : V} {o : Option D} (ix : Is F H x v) (iy : Is F H y w) (h : LK G x y o) : ∃ a r, v = .ref a ∧ DGet H a w r ∧ RelOD F H o r := by
  rcases h with ⟨p, kvs, k, rfl, h1, h2, rfl⟩ | ⟨p, kvs, k, rfl, h1, h2, rfl⟩
  · obtain ⟨kv, h3, h4⟩ := dKG_ok hG h1
    exact ⟨p, _, is_ref.mp ix, .inl ⟨kv, k, h3, keyD_ok iy h2, rfl⟩, valD_rel h4⟩
  · obtain ⟨kv, h3, h4⟩ := dTG_ok hG h1
    obtain ⟨b, e, hb⟩ := keyT_ok iy h2
    exact ⟨p, _, is_ref.mp ix, .inr ⟨kv, k, b, h3, e, hb, rfl⟩, valD_rel h4⟩
def dDGet (td ty : DE) : DE := fun s G Q => td s G fun x G1 => ty s G1 fun y G2 => ∃ d, LK G2 x y (some d) ∧ Q d G2
theorem qe_dget {o i : Expr} {pos : Pos} {td ty : DE} (hu : X.A.units + 1 < cLine) (ho : QE X o td) (hi : QE X i ty) (hs : NoSl i := by exact fun _ _ => rfl) : QE X (.Subscript o i pos) (dDGet td ty) := PE.weak (pe_dget hu ho hi hs) fun σ H Q h => by
  obtain ⟨F, s, G, Q', hs, hg, h, k⟩ := h
  refine lE_b hs hg h fun v H1 F1 d G1 e1 s1 g1 i1 h1 => ?_
  refine lE_b s1 g1 h1 fun w H2 F2 d2 G2 e2 s2 g2 i2 ⟨d, hd, q⟩ => ?_
  obtain ⟨a, r, e, h3, h4⟩ := LK_ok g2 (i1.mono e2) i2 hd
  cases r with
  | none => exact h4.elim
  | some r => exact ⟨a, r, e, h3, k _ H2 F2 _ G2 (e1.trans e2) g2 h4 q⟩
theorem RelOD.some_eq {F : Fz} {H : Hp} {o : Option D} {r : Option V} (h : RelOD F H o r) : r.isSome = o.isSome := by
  cases o <;> cases r <;> first | rfl | exact h.elim
def dDIn (neg : Bool) (ty td : DE) : DE := fun s G Q => ty s G fun y G1 => td s G1 fun x G2 => ∃ o, LK G2 x y o ∧ Q (.bl (neg ^^ o.isSome)) G2
theorem lE_din {ty td : DE} {σ : St} {H : Hp} {Q : VK} (h : lE (dDIn false ty td) σ H Q) : tDIn (lE ty) (lE td) σ H Q := by
  obtain ⟨F, s, G, Q', hs, hg, h, k⟩ := h
  refine lE_b hs hg h fun v H1 F1 d G1 e1 s1 g1 i1 h1 => ?_
  refine lE_b s1 g1 h1 fun w H2 F2 d2 G2 e2 s2 g2 i2 ⟨o, hd, q⟩ => ?_
  obtain ⟨a, r, e, h3, h4⟩ := LK_ok g2 i2 (i1.mono e2) hd
  refine ⟨a, r, e, h3, k _ H2 F2 _ G2 (e1.trans e2) g2 (is_bl.mpr rfl) ?_⟩
  rw [h4.some_eq]
  rw [Bool.false_xor] at q
  exact q
theorem lE_dnotin {ty td : DE} {σ : St} {H : Hp} {Q : VK} (h : lE (dDIn true ty td) σ H Q) : tDNotIn (lE ty) (lE td) σ H Q := by
  obtain ⟨F, s, G, Q', hs, hg, h, k⟩ := h
  refine lE_b hs hg h fun v H1 F1 d G1 e1 s1 g1 i1 h1 => ?_
  refine lE_b s1 g1 h1 fun w H2 F2 d2 G2 e2 s2 g2 i2 ⟨o, hd, q⟩ => ?_
  obtain ⟨a, r, e, h3, h4⟩ := LK_ok g2 i2 (i1.mono e2) hd
  refine ⟨a, r, e, h3, k _ H2 F2 _ G2 (e1.trans e2) g2 (is_bl.mpr rfl) ?_⟩
  rw [h4.some_eq]
  rw [Bool.true_xor] at q
  exact q
theorem qt_din {i o : Expr} {pos : Pos} {ty td : DE} (hu : X.A.units + 1 < cLine) (hi : QE X i ty) (ho : QE X o td) (h1 : behindInMarks .In o = false := by rfl) : QT X (.Compare i [.In] [o] pos) (dTest (dDIn false ty td)) := PT.weak (pt_cmp (pc_din hu hi ho) h1) fun _ _ _ z => tB_test (lT_test (fun _ _ _ z => lE_din z) z)
theorem qt_dnotin {i o : Expr} {pos : Pos} {ty td : DE} (hu : X.A.units + 1 < cLine) (hi : QE X i ty) (ho : QE X o td) (h1 : behindInMarks .NotIn o = false := by rfl) : QT X (.Compare i [.NotIn] [o] pos) (dTest (dDIn true ty td)) := PT.weak (pt_cmp (pc_dnotin hu hi ho) h1) fun _ _ _ z => tB_test (lT_test (fun _ _ _ z => lE_dnotin z) z)
/-- d[k] = v -/
def PT0 (G : Gp) (x y v : D) (Q : Gp → Prop) : Prop := (∃ p kvs k, x = .ref p ∧ G p = some (.sm (.dK kvs)) ∧ keyD y = some k ∧ kvs.length < 100000 ∧ Q (ud G p (.sm (.dK (putD kvs k v))))) ∨
  ∃ p kvs k, x = .ref p ∧ G p = some (.sm (.dT kvs)) ∧ keyT y = some k ∧ kvs.length < 100000 ∧ Q (ud G p (.sm (.dT (putD kvs k v))))
def dDPut (td ty tv : DE) : DS := fun E s G => tv s G fun v G1 => td s G1 fun x G2 => ty s G2 fun y G3 => PT0 G3 x y v fun G4 => E.nx s G4
theorem qs_dput {o i value : Expr} {pos pos' : Pos} {td ty tv : DE} (hu : X.A.units + 1 < cLine) (ho : QE X o td) (hi : QE X i ty) (hv : QE X value tv) (hs : swapsWith value (some (.Subscript o i pos')) pos.line X.env = pure false := by rfl) :
    QS X (.Assign [.Subscript o i pos'] value pos) (dDPut td ty tv) := PS.weak (ps_dput hu ho hi hv hs) fun E σ H h => by
  obtain ⟨F, s, G, E', hs, hg, h, k⟩ := h
  refine lE_b hs hg h fun v H1 F1 d1 G1 e1 s1 g1 i1 h1 => ?_
  refine lE_b s1 g1 h1 fun x H2 F2 d2 G2 e2 s2 g2 i2 h2 => ?_
  refine lE_b s2 g2 h2 fun y H3 F3 d3 G3 e3 s3 g3 i3 h3 => ?_
  have i1' := i1.mono (e2.trans e3)
  have i2' := i2.mono e3
  rcases h3 with ⟨p, kvs, kk, rfl, h4, h5, h6, q⟩ | ⟨p, kvs, kk, rfl, h4, h5, h6, q⟩
  · obtain ⟨z, hz, vs, rfl, hl⟩ := g3.get h4
    have e5 := ext_own (z := .dK (putK vs kk v)) g3 h4
    exact ⟨p, _, is_ref.mp i2', .inl ⟨vs, kk, hz, keyD_ok i3 h5, by rw [hl.length]; exact sz_lt h6, rfl⟩, k.nx _ _ F3 _ _ (((e1.trans e2).trans e3).trans e5) (s3.mono e5) (g3.set (o' := .dK (putD kvs kk d1)) h4 ⟨_, rfl, putD_rel (i1'.mono e5) (hl.mono e5)⟩) q⟩
  · obtain ⟨z, hz, vs, rfl, hl⟩ := g3.get h4
    obtain ⟨b, e, hb⟩ := keyT_ok i3 h5
    have e5 := ext_own (z := .dT (putK vs kk v)) g3 h4
    exact ⟨p, _, is_ref.mp i2', .inr ⟨vs, kk, b, hz, e, hb, by rw [hl.length]; exact sz_lt h6, rfl⟩, k.nx _ _ F3 _ _ (((e1.trans e2).trans e3).trans e5) (s3.mono e5) (g3.set (o' := .dT (putD kvs kk d1)) h4 ⟨_, rfl, putD_rel (i1'.mono e5) (hl.mono e5)⟩) q⟩
/-- d.get(k) -/
def isDG (G : Gp) (x : D) : Prop := ∃ p, x = .ref p ∧ ((∃ kvs, dKG (G p) = some kvs) ∨ ∃ kvs, dTG (G p) = some kvs)
theorem isDG_ok {F : Fz} {H : Hp} {G : Gp} (hG : Hg F H G) {x : D} {v : V} (i : Is F H x v) (h : isDG G x) : ∃ a, v = .ref a ∧ IsD H a := by
  obtain ⟨p, rfl, h⟩ := h
  refine ⟨p, is_ref.mp i, ?_⟩
  rcases h with ⟨kvs, h⟩ | ⟨kvs, h⟩
  · obtain ⟨kv, h1, _⟩ := dKG_ok hG h
    exact .inl ⟨kv, h1⟩
  · obtain ⟨kv, h1, _⟩ := dTG_ok hG h
    exact .inr ⟨kv, h1⟩
def dDGet1 (td ty : DE) : DE := fun s G Q => td s G fun x G1 => isDG G1 x ∧ ty s G1 fun y G2 => ∃ o, LK G2 x y o ∧ Q (o.getD .non) G2
/-- d.pop(k), it is there -/
def dDPop1 (td ty : DE) : DE := fun s G Q => td s G fun x G1 => isDG G1 x ∧ ty s G1 fun y G2 => ∃ p kvs k d, x = .ref p ∧ G2 p = some (.sm (.dK kvs)) ∧ keyD y = some k ∧ valD kvs k = some d ∧ Q d (ud G2 p (.sm (.dK (dropD kvs k))))
theorem qe_dpop1 {o e : Expr} {apos cpos : Pos} {td ty : DE} (ho : QE X o td) (he : QE X e ty) (m : M1 X o "pop" apos e cpos := by exact ⟨rfl, rfl, rfl, rfl⟩) : QE X (.Call (.Attribute o "pop" apos) [e] [] cpos) (dDPop1 td ty) := PE.weak (pe_dpop1 ho he m) fun σ H Q h => by
  obtain ⟨F, s, G, Q', hs, hg, h, k⟩ := h
  refine lE_b hs hg h fun v H1 F1 d1 G1 e1 s1 g1 i1 ⟨hd, h1⟩ => ?_
  obtain ⟨a, rfl, ha⟩ := isDG_ok g1 i1 hd
  refine ⟨a, rfl, ha, ?_⟩
  refine lE_b s1 g1 h1 fun w H2 F2 d2 G2 e2 s2 g2 i2 ⟨p, kvs, kk, d, hx, hp, hk, hv, q⟩ => ?_
  subst hx
  cases is_ref.mp i1
  obtain ⟨z, hz, vs, rfl, hl⟩ := g2.get hp
  have hr := valD_rel (k := kk) hl
  rw [hv] at hr
  cases hvv : valV vs kk with
  | none => rw [hvv] at hr; exact hr.elim
  | some r =>
    rw [hvv] at hr
    have e5 := ext_own (z := .dK (dropK vs kk)) g2 hp
    exact ⟨vs, kk, r, hz, keyD_ok i2 hk, hvv, k _ _ F2 _ _ ((e1.trans e2).trans e5) (g2.set (o' := .dK (dropD kvs kk)) hp ⟨_, rfl, dropD_rel (hl.mono e5)⟩) (hr.mono e5) q⟩
/-- {}: keys numbers and texts; keys tuples -/
def dNewK : DE := fun _ G Q => ∀ p, G p = none → Q (.ref p) (ud G p (.sm (.dK [])))
def dNewT : DE := fun _ G Q => ∀ p, G p = none → Q (.ref p) (ud G p (.sm (.dT [])))
theorem qe_newK {pos : Pos} : QE X (.Dict [] [] pos) dNewK := PE.weak pe_dnewK fun σ H Q h => by
  obtain ⟨F, s, G, Q', hs, hg, h, k⟩ := h
  exact fun p hp => k _ _ F _ _ (ext_new hg.fok hp) (hg.new (o := .dK []) hp ⟨[], rfl, .nil⟩) (is_ref.mpr rfl) (h p (hg.fresh hp))
theorem qe_newT {pos : Pos} : QE X (.Dict [] [] pos) dNewT := PE.weak pe_dnewT fun σ H Q h => by
  obtain ⟨F, s, G, Q', hs, hg, h, k⟩ := h
  exact fun p hp => k _ _ F _ _ (ext_new hg.fok hp) (hg.new (o := .dT []) hp ⟨[], rfl, .nil⟩) (is_ref.mpr rfl) (h p (hg.fresh hp))
/-- {k: v, ..} -/
def dPairs : List (DE × DE) → DSt → Gp → (List (D × D) → Gp → Prop) → Prop
  | [], _, G, Q => Q [] G
  | (tk, tv) :: r, s, G, Q => tk s G fun x G1 => tv s G1 fun y G2 => dPairs r s G2 fun ps G3 => Q ((x, y) :: ps) G3
def mergeD (kvs more : List (Key × D)) : List (Key × D) := more.foldl (fun acc kv => putD acc kv.1 kv.2) kvs
def keysD : List (D × D) → Option (List (Key × D))
  | [] => some []
  | (x, y) :: r => (match keyD x, keysD r with
    | some k, some kr => some ((k, y) :: kr)
    | _, _ => none)
def dDisp (trs : List (DE × DE)) : DE := fun s G Q => ∀ p, G p = none → dPairs trs s (ud G p (.sm (.dK []))) fun ps G2 => G2 p = some (.sm (.dK [])) ∧ ∃ kvs, keysD ps = some kvs ∧ kvs.length ≤ 15 ∧ Q (.ref p) (ud G2 p (.sm (.dK (mergeD [] kvs))))
def IsPP (F : Fz) (H : Hp) : List (D × D) → List (V × V) → Prop := Paired fun p q => Is F H p.1 q.1 ∧ Is F H p.2 q.2
theorem IsPP.mono {F F' : Fz} {H H' : Hp} (e : Ext F H F' H') {ps : List (D × D)} {qs : List (V × V)} (h : IsPP F H ps qs) : IsPP F' H' ps qs := Paired.mapP h fun _ _ z => ⟨z.1.mono e, z.2.mono e⟩
theorem pairs_ok : ∀ {trs : List (DE × DE)} {σ : St} {s : DSt} {H : Hp} {F : Fz} {G : Gp} {Q : List (V × V) → Hp → Prop} {Q' : List (D × D) → Gp → Prop}, IsS F H s σ → Hg F H G → dPairs trs s G Q' → (∀ ps H' F' ds G', Ext F H F' H' → Hg F' H' G' → IsPP F' H' ds ps → Q' ds G' → Q ps H') → tPairs (trs.map fun t => (lE t.1, lE t.2)) σ H Q
  | [], σ, s, H, F, G, Q, Q', hs, hg, h, k => k [] H F [] G (Ext.refl F H) hg .nil h
  | (tk, tv) :: r, σ, s, H, F, G, Q, Q', hs, hg, h, k => by
    refine lE_b hs hg h fun v H1 F1 d1 G1 e1 s1 g1 i1 h1 => ?_
    refine lE_b s1 g1 h1 fun w H2 F2 d2 G2 e2 s2 g2 i2 h2 => ?_
    exact pairs_ok s2 g2 h2 fun ps H3 F3 ds G3 e3 g3 i3 q3 => k _ H3 F3 _ G3 ((e1.trans e2).trans e3) g3 (.cons ⟨i1.mono (e2.trans e3), i2.mono e3⟩ i3) q3
theorem keysD_ok {F : Fz} {H : Hp} : ∀ {ds : List (D × D)} {ps : List (V × V)} {kds : List (Key × D)}, IsPP F H ds ps → keysD ds = some kds → ∃ kvs, ps = kvs.map (fun kv => (kV kv.1, kv.2)) ∧ IsP F H kds kvs
  | _, _, kds, .nil, e => by
    cases (show some [] = some kds from e)
    exact ⟨[], rfl, .nil⟩
  | (x, y) :: r, (v, w) :: t, kds, .cons h hs, e => by
    have e : (match keyD x, keysD r with
      | some k, some kr => some ((k, y) :: kr)
      | _, _ => none) = some kds := e
    cases h1 : keyD x with
    | none => rw [h1] at e; cases e
    | some k =>
      cases h2 : keysD r with
      | none => rw [h1, h2] at e; cases e
      | some kr =>
        rw [h1, h2] at e
        cases (show some ((k, y) :: kr) = some kds from e)
        obtain ⟨kvs, h3, h4⟩ := keysD_ok hs h2
        refine ⟨(k, w) :: kvs, ?_, .cons ⟨rfl, h.2⟩ h4⟩
        rw [h3, List.map_cons, ← keyD_ok h.1 h1]
theorem merge_rel {F : Fz} {H : Hp} : ∀ {more : List (Key × D)} {more' : List (Key × V)} {kds : List (Key × D)} {kvs : List (Key × V)}, IsP F H more more' → IsP F H kds kvs → IsP F H (mergeD kds more) (mergeK kvs more')
  | _, _, _, _, .nil, h => h
  | p :: r, q :: t, kds, kvs, .cons h hs, hk => by
    obtain ⟨k, d⟩ := p
    obtain ⟨k', v⟩ := q
    obtain ⟨rfl, hd⟩ : k = k' ∧ Is F H d v := h
    show IsP F H (mergeD (putD kds k d) r) (mergeK (putK kvs k v) t)
    exact merge_rel hs (putD_rel hd hk)
theorem qe_disp {pos : Pos} {keys : List (Option Expr)} {values : List Expr} {trs : List (DE × DE)} (h : PPs X pos keys values (trs.map fun t => (lE t.1, lE t.2))) (hall : keys.all (·.isSome) = true := by rfl) (hl : keys.length = values.length := by rfl) (h0 : keys ≠ [] := by exact fun z => by cases z)
    (h15 : keys.length ≤ 15 := by decide) : QE X (.Dict keys values pos) (dDisp trs) := PE.weak (pe_disp h hall hl h0 h15) fun σ H Q h => by
  obtain ⟨F, s, G, Q', hs, hg, h, k⟩ := h
  intro p hp
  have ex : Ext F H F (upd H p (.dK [])) := ext_new hg.fok hp
  refine pairs_ok (hs.mono ex) (hg.new (o := .dK []) hp ⟨[], rfl, .nil⟩) (h p (hg.fresh hp)) fun ps H2 F2 ds G2 e2 g2 i2 ⟨h1, kvs, h2, h3, q⟩ => ?_
  obtain ⟨z, hz, vs, rfl, hl⟩ := g2.get h1
  cases hl
  obtain ⟨kv, h4, h5⟩ := keysD_ok i2 h2
  have e5 := ext_own (z := .dK (mergeK [] kv)) g2 h1
  exact ⟨hz, kv, h4, by rw [h5.length]; exact h3, k _ _ F2 _ _ ((ex.trans e2).trans e5) (g2.set (o' := .dK (mergeD [] kvs)) h1 ⟨_, rfl, merge_rel (h5.mono e5) .nil⟩) (is_ref.mpr rfl) q⟩
theorem qps_nil {pos : Pos} : PPs X pos [] [] (([] : List (DE × DE)).map fun t => (lE t.1, lE t.2)) := pps_nil
theorem qps_cons {pos : Pos} {k v : Expr} {ks : List (Option Expr)} {vs : List Expr} {tk tv : DE} {trs : List (DE × DE)} (hk : QE X k tk) (hv : QE X v tv) (hr : PPs X pos ks vs (trs.map fun t => (lE t.1, lE t.2))) :
    PPs X pos (some k :: ks) (v :: vs) (((tk, tv) :: trs).map fun t => (lE t.1, lE t.2)) := pps_cons hk hv hr
end
end Dg
namespace Dg
open PySem PySem.Spec L2
open PyProof.Rows (envOfC)
section
variable {X : Cx} {K : PySem.W.Frag}
theorem qv (i : Nat) {x : Str} {pos : Pos} (hN : X.N[i]? = some x := by rfl) (hv : Vis X.env.scope x := by first | exact Or.inl rfl | exact Or.inr (Or.inl rfl) | exact Or.inr (Or.inr rfl)) (hd : (x == ("__debug__" : Str)) = false := by decide) (hcd : (x == ("__classdict__" : Str)) = false := by decide) : QE X (.Name x pos) (dVar i) := qe_var hN hv hd hcd
theorem sr_add : SR (rI0 fun i j => .int (i + j)) eAdd := sr_I0 fun _ _ _ _ => is_int.mpr rfl
theorem sr_sub : SR (rI0 fun i j => .int (i - j)) eSub := sr_I0 fun _ _ _ _ => is_int.mpr rfl
theorem sr_lt : SR (rI0 fun i j => .bl (decide (i < j))) eLt := sr_I0 fun _ _ _ _ => is_bl.mpr rfl
theorem sr_le : SR (rI0 fun i j => .bl (decide (i ≤ j))) eLe := sr_I0 fun _ _ _ _ => is_bl.mpr rfl
theorem sr_gt : SR (rI0 fun i j => .bl (decide (j < i))) eGt := sr_I0 fun _ _ _ _ => is_bl.mpr rfl
theorem sr_ge : SR (rI0 fun i j => .bl (decide (j ≤ i))) eGe := sr_I0 fun _ _ _ _ => is_bl.mpr rfl
def eMul : DR2 := eI CMul fun i j => .int (i * j)
def eMod : DR2 := eI (fun _ j => 0 < j) fun i j => .int (i % j)
def eDiv : DR2 := eI CDiv fun i j => .int (i / j)
def ePow : DR2 := eI CPow fun i j => .int (i ^ j.toNat)
theorem sr_mul : SR (rI CMul fun i j => .int (i * j)) eMul := sr_I fun _ _ _ _ => is_int.mpr rfl
theorem sr_mod : SR (rI (fun _ j => 0 < j) fun i j => .int (i % j)) eMod := sr_I fun _ _ _ _ => is_int.mpr rfl
theorem sr_div : SR (rI CDiv fun i j => .int (i / j)) eDiv := sr_I fun _ _ _ _ => is_int.mpr rfl
theorem sr_pow : SR (rI CPow fun i j => .int (i ^ j.toNat)) ePow := sr_I fun _ _ _ _ => is_int.mpr rfl
theorem hu_room {k : Nat} {A : Around} (r : Room k A) : A.units + 1 < cLine := by have := r.un; omega
theorem hu65 {k : Nat} {A : Around} (r : Room k A) : A.units + 65 < cLine := by have := r.un; omega
structure Fn (P : Program) (w : World) (K : PySem.W.Frag) (mg : Str → Option Value) (base : Heap) (x : Str) (ps : List Str) (k : Nat) (sp : DSp) : Prop where
  ex : ∃ f fd, FnOk P w K mg base CX0 k f fd ps (lSp sp) ∧ mg x = some (.ref f) ∧ PySem.W.keepIn K (.ref f) = true ∧ Binds K fd ps []
theorem qe_fn {x : Str} {p pos : Pos} {e : Expr} {es : List Expr} {k j : Nat} {ps : List Str} {sp : DSp} {t : DA} (F : Fn X.prog X.w X.K X.mg X.base x ps k sp) (hr : Room j X.A) (hj : k ≤ j) (hg : Gl X x) (ha : QA X (e :: es) t)
    (hd : (x == ("__debug__" : Str)) = false := by decide) (hs : starEach (e :: es) X.env = (false, eval e X.env) :: starEach es X.env := by rfl) (hpl : (backTo pos (starEach es X.env)).any (·.1) = false := by rfl) :
    QE X (.Call (.Name x p) (e :: es) [] pos) (dCall sp t) := by
  obtain ⟨f, fd, h1, h2, h3, h4⟩ := F.ex
  exact qe_call h1 (hr.mono hj) hg h2 h3 h4 ha hd hs hpl
def WrL (K : PySem.W.Frag) (a : Addr) (ns : List Int) : Prop := ∃ (o : Obj) (its : Array Value) (n : Nat), K.lookup a = some o ∧ o.cls = .type "list" ∧ o.dict = none ∧ o.data = .seq its n ∧ its.size ≤ sizeLine ∧ Vals (ns.map V.int) its.toList
def ScrAt (K : PySem.W.Frag) (G : Gp) (sc : Addr) (ns : List Int) : Prop := G sc = some (.sm (.scr ns)) ∨ WrL K sc ns
theorem scr_ok {F : Fz} {H : Hp} {G : Gp} (hG : Hg F H G) {sc : Addr} {ns : List Int} (h : ScrAt K G sc ns) : SqL K H sc (ns.map V.int) := by
  rcases h with h | h
  · obtain ⟨z, hz, o, rfl⟩ := hG.get h
    exact .inl (.inr ⟨o, hz⟩)
  · exact .inr h
def eIxS (K : PySem.W.Frag) : DR2 := fun x y G Q => ∃ sc ns i n, x = .ref sc ∧ ScrAt K G sc ns ∧ y = .int i ∧ atI ns i = some n ∧ Q (.int n) G
theorem sr_ixS : SR (rIxL K) (eIxS K) := by
  rintro F H G x y dx dy Q Q' hG ix iy ⟨sc, ns, i, n, rfl, hs, rfl, ha, q⟩ k
  refine ⟨sc, ns.map V.int, i, .int n, is_ref.mp ix, is_int.mp iy, scr_ok hG hs, ?_, k.fin hG (is_int.mpr rfl) q⟩
  unfold atI at ha ⊢
  rw [List.length_map]
  cases e : ixN ns.length i with
  | none => rw [e] at ha; cases ha
  | some j =>
    rw [e] at ha
    show (ns.map V.int)[j]? = some (.int n)
    rw [List.getElem?_map]
    have ha : ns[j]? = some n := ha
    rw [ha]
    rfl
def cLenS (K : PySem.W.Frag) : List D → Gp → DK → Prop := fun xs G Q => ∃ sc ns, xs = [.ref sc] ∧ ScrAt K G sc ns ∧ Q (.int (ns.length : Int)) G
theorem sc_lenS : SC (fun xs H Q => ∃ p ys, xs = [.ref p] ∧ (SqL K H p ys ∨ SqT K H p ys) ∧ Q (.int ys.length) H) (cLenS K) := by
  rintro F H G xs ds Q Q' hG il ⟨sc, ns, rfl, hs, q⟩ k
  obtain ⟨v, rfl, iv⟩ := isL_one il
  refine ⟨sc, ns.map V.int, by rw [is_ref.mp iv], .inl (scr_ok hG hs), ?_⟩
  rw [List.length_map]
  exact k.fin hG (is_int.mpr rfl) q
def RowB (i s r : Int) : Prop := 0 ≤ i ∧ 0 ≤ s ∧ s < 2147483647 ∧ 0 ≤ r
/-- [script, place, mixed, rest] -/
def layRow (K : PySem.W.Frag) : Addr → List (Addr × SO) → Prop := fun a ps => ∃ sc ns i s r, RowB i s r ∧
  ((sc ≠ a ∧ ps = [(a, .lst [.ref sc, .int i, .int s, .int r]), (sc, .scr ns)]) ∨ (WrL K sc ns ∧ ps = [(a, .lst [.ref sc, .int i, .int s, .int r])]))
abbrev gRow (K : PySem.W.Frag) : GO := .cmp (layRow K)
/-- the row is opened; the last part shuts it again -/
theorem row_open {F : Fz} {H : Hp} {G : Gp} (g : Hg F H G) {a : Addr} (h : G a = some (gRow K)) : ∃ G1 sc ns i s r, RowB i s r ∧ G1 a = some (.sm (.lst [.ref sc, .int i, .int s, .int r])) ∧ (∀ x, ScrAt K (ud G1 a x) sc ns) ∧ Hg F H G1 ∧
    ∀ F' H' i' s' r', RowB i' s' r' → Hg F' H' (ud G1 a (.sm (.lst [.ref sc, .int i', .int s', .int r']))) → Hg F' H' G := by
  obtain ⟨ps, ⟨sc, ns, i, s, r, hb, hc⟩, ho, hfree, huniq, hop⟩ := g.openC h
  rcases hc with ⟨ne, rfl⟩ | ⟨hw, rfl⟩
  · have hsc : G sc = none := hfree sc (.scr ns) (by simp) ne
    refine ⟨ud (ud G sc (.sm (.scr ns))) a (.sm (.lst [.ref sc, .int i, .int s, .int r])), sc, ns, i, s, r, hb, ud_same, fun x => .inl (by rw [ud_ne ne, ud_ne ne, ud_same]), ?_, ?_⟩
    · refine hop _ fun b x e => ?_
      by_cases h1 : b = a
      · subst h1
        rw [ud_same] at e
        cases e
        exact .inr ⟨_, List.mem_cons_self .., rfl⟩
      · rw [ud_ne h1] at e
        by_cases h2 : b = sc
        · subst h2
          rw [ud_same] at e
          cases e
          exact .inr ⟨_, List.mem_cons_of_mem _ (List.mem_cons_self ..), rfl⟩
        · rw [ud_ne h2] at e
          exact .inl ⟨e, h1⟩
    · intro F' H' i' s' r' hb' g'
      refine Hg.close (a := a) (L := layRow K) (ps := [(a, .lst [.ref sc, .int i', .int s', .int r']), (sc, .scr ns)]) g' ⟨sc, ns, i', s', r', hb', .inl ⟨ne, rfl⟩⟩ ⟨_, List.mem_cons_self ..⟩ (fun b o hm => ?_) fun b x e => ?_
      · rcases List.mem_cons.mp hm with q | q
        · cases q
          exact ud_same
        · rcases List.mem_cons.mp q with q | q
          · cases q
            rw [ud_ne ne, ud_ne ne, ud_same]
          · cases q
      · by_cases h1 : b = a
        · subst h1
          rw [h] at e
          cases e
          exact .inl ⟨rfl, rfl⟩
        · have h2 : b ≠ sc := fun q => by
            rw [q, hsc] at e
            cases e
          refine .inr ⟨by rw [ud_ne h1, ud_ne h1, ud_ne h2]; exact e, fun o hm => ?_⟩
          rcases List.mem_cons.mp hm with q | q
          · cases q
            exact h1 rfl
          · rcases List.mem_cons.mp q with q | q
            · cases q
              exact h2 rfl
            · cases q
  · refine ⟨ud G a (.sm (.lst [.ref sc, .int i, .int s, .int r])), sc, ns, i, s, r, hb, ud_same, fun x => .inr hw, ?_, ?_⟩
    · refine hop _ fun b x e => ?_
      by_cases h1 : b = a
      · subst h1
        rw [ud_same] at e
        cases e
        exact .inr ⟨_, List.mem_cons_self .., rfl⟩
      · rw [ud_ne h1] at e
        exact .inl ⟨e, h1⟩
    · intro F' H' i' s' r' hb' g'
      refine Hg.close (a := a) (L := layRow K) (ps := [(a, .lst [.ref sc, .int i', .int s', .int r'])]) g' ⟨sc, ns, i', s', r', hb', .inr ⟨hw, rfl⟩⟩ ⟨_, List.mem_cons_self ..⟩ (fun b o hm => ?_) fun b x e => ?_
      · rcases List.mem_cons.mp hm with q | q
        · cases q
          exact ud_same
        · cases q
      · by_cases h1 : b = a
        · subst h1
          rw [h] at e
          cases e
          exact .inl ⟨rfl, rfl⟩
        · refine .inr ⟨by rw [ud_ne h1, ud_ne h1]; exact e, fun o hm => ?_⟩
          rcases List.mem_cons.mp hm with q | q
          · cases q
            exact h1 rfl
          · cases q
/-- [script, 0, 0, 0] just made is a row -/
theorem row_new {F : Fz} {H : Hp} {G : Gp} {a sc : Addr} {ns : List Int} (g : Hg F H (ud G a (.sm (.lst [.ref sc, .int 0, .int 0, .int 0])))) (h0 : G a = none) (hs : ScrAt K G sc ns) : Hg F H (ud (er G sc) a (gRow K)) := by
  have hb : RowB 0 0 0 := ⟨by decide, by decide, by decide, by decide⟩
  rcases hs with hs | hw
  · have ne : sc ≠ a := fun q => by
      rw [q, h0] at hs
      cases hs
    refine Hg.close (a := a) (L := layRow K) (ps := [(a, .lst [.ref sc, .int 0, .int 0, .int 0]), (sc, .scr ns)]) g ⟨sc, ns, 0, 0, 0, hb, .inl ⟨ne, rfl⟩⟩ ⟨_, List.mem_cons_self ..⟩ (fun b o hm => ?_) fun b x e => ?_
    · rcases List.mem_cons.mp hm with q | q
      · cases q
        exact ud_same
      · rcases List.mem_cons.mp q with q | q
        · cases q
          rw [ud_ne ne]
          exact hs
        · cases q
    · by_cases h1 : b = a
      · subst h1
        rw [ud_same] at e
        cases e
        exact .inl ⟨rfl, rfl⟩
      · rw [ud_ne h1] at e
        have h2 : b ≠ sc := fun q => by
          rw [q, er_same] at e
          cases e
        rw [er_ne h2] at e
        refine .inr ⟨by rw [ud_ne h1]; exact e, fun o hm => ?_⟩
        rcases List.mem_cons.mp hm with q | q
        · cases q
          exact h1 rfl
        · rcases List.mem_cons.mp q with q | q
          · cases q
            exact h2 rfl
          · cases q
  · refine Hg.close (a := a) (L := layRow K) (ps := [(a, .lst [.ref sc, .int 0, .int 0, .int 0])]) g ⟨sc, ns, 0, 0, 0, hb, .inr ⟨hw, rfl⟩⟩ ⟨_, List.mem_cons_self ..⟩ (fun b o hm => ?_) fun b x e => ?_
    · rcases List.mem_cons.mp hm with q | q
      · cases q
        exact ud_same
      · cases q
    · by_cases h1 : b = a
      · subst h1
        rw [ud_same] at e
        cases e
        exact .inl ⟨rfl, rfl⟩
      · rw [ud_ne h1] at e
        have e2 : G b = some x := by
          unfold er at e
          split at e
          · cases e
          · exact e
        refine .inr ⟨by rw [ud_ne h1]; exact e2, fun o hm => ?_⟩
        rcases List.mem_cons.mp hm with q | q
        · cases q
          exact h1 rfl
        · cases q
/-- a draw: some number below; all stands as it was -/
def sp_L_taken (K : PySem.W.Frag) : DSp := fun ds G Q => ∃ r m, ds = [.ref r, .int m] ∧ G r = some (gRow K) ∧ 0 < m ∧ m < 1073741824 ∧ ∀ k, 0 ≤ k → k < m → Q (.int k) G
end
end Dg
namespace Dg
open PySem PySem.Spec L2
section
variable {s : DSt} {G : Gp} {Q : DK} {QT : Bool → Gp → Prop} {QA : List D → Gp → Prop} {E : DEnds} {t u : DS} {ta tb tc : DE} {tt tu : DT} {tr : DA} {i j : Int} {p : Addr} {ds es : List D} {d x y : D} {b : Bool} {g : DG} {N : DSt → Gp → Prop}
theorem w_seq (h : t { E with nx := vN (u E) } s G) : dSeq t u E s G := h
theorem w_next (h : E.nx s G) : dNext E s G := h
theorem w_asgN {n : Nat} (h : ta s G fun x G1 => E.nx (s.set n (some x)) G1) : dAsg ta (hName n) E s G := h
theorem w_asgT {n : Nat} {gs : DGs} (h : ta s G fun x G1 => ∃ ds, x = .tup ds ∧ ds.length = n ∧ gs ds s G1 E.nx) : dAsg ta (hTup n gs) E s G := h
theorem w_asgS {te ti : DE} {r : DSet} (h : ta s G fun v G1 => te s G1 fun o G2 => ti s G2 fun i G3 => r o i v G3 fun G4 => E.nx s G4) : dAsg ta (hSub te ti r) E s G := h
theorem w_ret (h : ta s G E.rt) : dRet ta E s G := h
theorem w_drop (h : ta s G fun _ G1 => E.nx s G1) : dDrop ta E s G := h
theorem w_ifS (h : tt s G fun b G1 => if b = true then t E s G1 else u E s G1) : dIfS tt t u E s G := h
theorem w_test (h : ta s G fun x G1 => ∃ b, x = .bl b ∧ QT b G1) : dTest ta s G QT := h
theorem w_and (h : tt s G fun c G1 => if c = true then tu s G1 QT else QT false G1) : dAnd tt tu s G QT := h
theorem w_or (h : tt s G fun c G1 => if c = true then QT true G1 else tu s G1 QT) : dOr tt tu s G QT := h
theorem w_not (h : tt s G fun c G1 => QT (!c) G1) : dNot tt s G QT := h
theorem w_andV (h : ta s G fun x G1 => ∃ c, x = .bl c ∧ if c = true then tb s G1 Q else Q (.bl false) G1) : dAndV ta tb s G Q := h
theorem w_orV (h : ta s G fun x G1 => ∃ c, x = .bl c ∧ if c = true then Q (.bl true) G1 else tb s G1 Q) : dOrV ta tb s G Q := h
theorem w_notV (h : ta s G fun x G1 => ∃ c, x = .bl c ∧ Q (.bl (!c)) G1) : dNotV ta s G Q := h
theorem w_if (h : tt s G fun c G1 => if c = true then ta s G1 Q else tb s G1 Q) : dIf tt ta tb s G Q := h
theorem w_var {n : Nat} (h : s[n]? = some (some d)) (q : Q d G) : dVar n s G Q := ⟨d, h, q⟩
theorem w_c (q : Q d G) : dC d s G Q := q
theorem w_op {r : DR2} (h : ta s G fun x G1 => tb s G1 fun y G2 => r x y G2 Q) : dOp r ta tb s G Q := h
theorem w_chain {r r' : DR2} (h : ta s G fun x G1 => tb s G1 fun y G2 => r x y G2 fun z G3 => ∃ k, z = .bl k ∧ (if k = true then tc s G3 fun w G4 => r' y w G4 Q else Q (.bl false) G3)) : dChain r r' ta tb tc s G Q := h
theorem w_nil (h : QA [] G) : dNil s G QA := h
theorem w_cons (h : ta s G fun x G1 => tr s G1 fun xs G2 => QA (x :: xs) G2) : dCons ta tr s G QA := h
theorem w_tup (h : tr s G fun ds G1 => ds.length ≤ 100000 ∧ Q (.tup ds) G1) : dTup tr s G Q := h
theorem w_lst (h : tr s G fun ds G1 => ds.length ≤ 100000 ∧ ∀ p, G1 p = none → Q (.ref p) (ud G1 p (.sm (.lst ds)))) : dLst tr s G Q := h
theorem w_len (hl : ds.length ≤ 100000) {A : Prop} (h : A) : ds.length ≤ 100000 ∧ A := ⟨hl, h⟩
theorem w_call {sp : DSp} (h : tr s G fun ds G1 => sp ds G1 Q) : dCall sp tr s G Q := h
theorem w_cb {r : List D → Gp → DK → Prop} (h : tr s G fun ds G1 => r ds G1 Q) : dCB r tr s G Q := h
theorem w_isN (h : ta s G fun x G1 => Q (.bl (isN x)) G1) : dIsN ta s G Q := h
theorem w_notN (h : ta s G fun x G1 => Q (.bl (!isN x)) G1) : dNotN ta s G Q := h
theorem w_add (q : Q (.int (i + j)) G) : eAdd (.int i) (.int j) G Q := ⟨i, j, rfl, rfl, q⟩
theorem w_sub (q : Q (.int (i - j)) G) : eSub (.int i) (.int j) G Q := ⟨i, j, rfl, rfl, q⟩
theorem w_lt (q : Q (.bl (decide (i < j))) G) : eLt (.int i) (.int j) G Q := ⟨i, j, rfl, rfl, q⟩
theorem w_le (q : Q (.bl (decide (i ≤ j))) G) : eLe (.int i) (.int j) G Q := ⟨i, j, rfl, rfl, q⟩
theorem w_gt (q : Q (.bl (decide (j < i))) G) : eGt (.int i) (.int j) G Q := ⟨i, j, rfl, rfl, q⟩
theorem w_ge (q : Q (.bl (decide (j ≤ i))) G) : eGe (.int i) (.int j) G Q := ⟨i, j, rfl, rfl, q⟩
theorem w_mod (h : 0 < j) (q : Q (.int (i % j)) G) : eMod (.int i) (.int j) G Q := ⟨i, j, rfl, rfl, h, q⟩
theorem w_div (h : 0 < j) (h2 : j < 1073741824) (q : Q (.int (i / j)) G) : eDiv (.int i) (.int j) G Q := ⟨i, j, rfl, rfl, ⟨h, h2⟩, q⟩
theorem w_mul (h : CMul i j) (q : Q (.int (i * j)) G) : eMul (.int i) (.int j) G Q := ⟨i, j, rfl, rfl, h, q⟩
theorem w_pow (h : CPow i j) (q : Q (.int (i ^ j.toNat)) G) : ePow (.int i) (.int j) G Q := ⟨i, j, rfl, rfl, h, q⟩
theorem w_eq (h : eqS x y = some b) (q : Q (.bl b) G) : eEq x y G Q := ⟨b, h, q⟩
theorem w_ne (h : eqS x y = some b) (q : Q (.bl (!b)) G) : eNe x y G Q := ⟨b, h, q⟩
theorem w_ixL (h : lstOf G x = some ds) (h2 : atI ds i = some d) (q : Q d G) : eIxL x (.int i) G Q := ⟨ds, i, d, h, rfl, h2, q⟩
theorem w_ixT (h2 : atI ds i = some d) (q : Q d G) : eIxT (.tup ds) (.int i) G Q := ⟨ds, i, d, rfl, rfl, h2, q⟩
theorem w_lenL (h : lstOf G x = some ds) (q : Q (.int (ds.length : Int)) G) : cLen [x] G Q := ⟨x, ds, rfl, .inl h, q⟩
theorem w_lenT (q : Q (.int (ds.length : Int)) G) : cLen [.tup ds] G Q := ⟨_, ds, rfl, .inr rfl, q⟩
theorem w_tupleL (h : lstOf G x = some ds) (q : Q (.tup ds) G) : cTuple [x] G Q := ⟨x, ds, rfl, .inl h, q⟩
theorem w_min2 (q : Q (.int (min i j)) G) : cMin2 [.int i, .int j] G Q := ⟨i, j, rfl, q⟩
theorem w_max2 (q : Q (.int (max i j)) G) : cMax2 [.int i, .int j] G Q := ⟨i, j, rfl, q⟩
theorem w_intB (q : Q (.int (if b then 1 else 0)) G) : cInt [.bl b] G Q := .inr ⟨b, rfl, q⟩
theorem w_bm {T : String} {r : D → List D → Gp → DK → Prop} (h : ta s G fun x G1 => tyD T G1 x ∧ tr s G1 fun xs G2 => r x xs G2 Q) : dBM T r ta tr s G Q := h
theorem w_bm0 {T : String} {r : D → List D → Gp → DK → Prop} (h : ta s G fun x G1 => tyD T G1 x ∧ r x [] G1 Q) : dBM0 T r ta s G Q := h
theorem w_ty {A : Prop} (h : lstOf G x = some ds) (q : A) : tyD "list" G x ∧ A := ⟨.inl ⟨rfl, ds, h⟩, q⟩
theorem w_append (h : G p = some (.sm (.lst ds))) (hl : ds.length < 100000) (q : Q .non (ud G p (.sm (.lst (ds ++ [y]))))) : mAppend (.ref p) [y] G Q := ⟨p, ds, y, rfl, rfl, h, hl, q⟩
theorem w_extend (h : G p = some (.sm (.lst ds))) (h2 : lstOf G y = some es) (hl : ds.length + es.length ≤ 100000) (q : Q .non (ud G p (.sm (.lst (ds ++ es))))) : mExtend (.ref p) [y] G Q := ⟨p, ds, y, es, rfl, rfl, h, h2, hl, q⟩
theorem w_setL {n : Nat} {Q1 : Gp → Prop} (h : G p = some (.sm (.lst ds))) (h2 : ixN ds.length i = some n) (q : Q1 (ud G p (.sm (.lst (ds.set n y))))) : eSetL (.ref p) (.int i) y G Q1 := ⟨p, ds, i, n, rfl, rfl, h, h2, q⟩
theorem w_iteT {A B : Prop} {c : Bool} (hc : c = true) (h : A) : if c = true then A else B := by rw [if_pos hc]; exact h
theorem w_iteF {A B : Prop} {c : Bool} (hc : c = false) (h : B) : if c = true then A else B := by rw [hc, if_neg Bool.false_ne_true]; exact h
theorem w_ite {A B : Prop} {c : Bool} (h1 : c = true → A) (h2 : c = false → B) : if c = true then A else B := by
  cases c with
  | true => exact h1 rfl
  | false => exact h2 rfl
theorem w_bl2 {P : Bool → Prop} (h : P b) : ∃ c, D.bl b = .bl c ∧ P c := ⟨b, rfl, h⟩
theorem w_hcons {gs : DGs} {Q1 : DSt → Gp → Prop} (h : g d s G fun s' G' => gs ds s' G' Q1) : hCons g gs (d :: ds) s G Q1 := ⟨d, ds, rfl, h⟩
theorem w_hnil {Q1 : DSt → Gp → Prop} (h : Q1 s G) : hNil [] s G Q1 := ⟨rfl, h⟩
theorem w_hname {n : Nat} {Q1 : DSt → Gp → Prop} (h : Q1 (s.set n (some d)) G) : hName n d s G Q1 := h
theorem w_exT {n : Nat} {gs : DGs} {Q1 : DSt → Gp → Prop} (hl : ds.length = n) (h : gs ds s G Q1) : ∃ es, D.tup ds = .tup es ∧ es.length = n ∧ gs es s G Q1 := ⟨ds, rfl, hl, h⟩
end
theorem bx_f {b : Bool} : (false ^^ b) = b := Bool.false_xor b
theorem bx_t {b : Bool} : (true ^^ b) = !b := Bool.true_xor b
section
variable {s s' : DSt} {G G' : Gp} {N nx bk ct : DSt → Gp → Prop} {rt Q : DK} {d : D}
theorem w_nx (h : N s G) : (DEnds.mk (vN N) rt bk ct).nx s G := vN0 h
theorem w_nx0 (h : nx s G) : (DEnds.mk nx rt bk ct).nx s G := h
theorem w_rt (h : rt d G) : (DEnds.mk nx rt bk ct).rt d G := h
theorem w_bk (h : bk s G) : (DEnds.mk nx rt bk ct).bk s G := h
theorem w_ct (h : ct s G) : (DEnds.mk nx rt bk ct).ct s G := h
/-- fewer slots are known -/
def SLe (s' s : DSt) : Prop := s'.length = s.length ∧ ∀ (i : Nat) (d : D), s'[i]? = some (some d) → s[i]? = some (some d)
theorem SLe.refl {s : DSt} : SLe s s := ⟨rfl, fun _ _ h => h⟩
theorem SLe.keep {o : Option D} (h : SLe s' s) : SLe (o :: s') (o :: s) := ⟨by simp [h.1], fun i d e => by
  cases i with
  | zero => simpa using e
  | succ i => simpa using h.2 i d (by simpa using e)⟩
theorem SLe.drop {o : Option D} (h : SLe s' s) : SLe (none :: s') (o :: s) := ⟨by simp [h.1], fun i d e => by
  cases i with
  | zero => simp at e
  | succ i => simpa using h.2 i d (by simpa using e)⟩
theorem vN_le (hs : SLe s' s) (hk : ∀ a x, G' a = some x → G a = some x) (h : N s' G') : vN N s G := fun F H σ i g =>
  ⟨F, s', G', Ext.refl F H, ⟨hs.1.trans i.1, fun j d e => i.2 j d (hs.2 j d e)⟩, g.mono hk, h⟩
end
section
variable {X : Cx}
def dFz (t : DE) : DE := fun s G Q => t s G (vR Q)
theorem qe_fz {e : Expr} {t : DE} (h : QE X e t) : QE X e (dFz t) := PE.weak h fun σ H Q z => by
  obtain ⟨F, s, G, Q', hs, hg, h, k⟩ := z
  exact ⟨F, s, G, _, hs, hg, h, k.vR⟩
theorem w_fz {t : DE} {s : DSt} {G : Gp} {Q : DK} (h : t s G (vR Q)) : dFz t s G Q := h
/-- a new list is given up -/
theorem vR_frz {G : Gp} {Q : DK} {p : Addr} {ds : List D} (hp : G p = none) (h : Q (.lst ds) G) : vR Q (.ref p) (ud G p (.sm (.lst ds))) := by
  refine vR_vs (VS1.frz (ud_same)) ?_
  rw [er_ud hp]
  exact h
theorem vR_frz' {G : Gp} {Q : DK} {p : Addr} {ds : List D} (hp : G p = some (.sm (.lst ds))) (h : Q (.lst ds) (er G p)) : vR Q (.ref p) G := vR_vs (VS1.frz hp) h
end
section
variable {s : DSt} {G : Gp} {E : DEnds} {n : Nat} {item : Nat → D → Prop} {Ok : Gp → Prop} {g : DG} {tb : DS}
def Ends (σ : Type) (W : σ → Prop) (S : σ → DSt) (GG : σ → Gp) : DSt → Gp → Prop := fun s G => ∃ a, W a ∧ s = S a ∧ G = GG a
def vE (σ : Type) (W : σ → Prop) (S : σ → DSt) (GG : σ → Gp) : DSt → Gp → Prop := vN (Ends σ W S GG)
theorem for_st {σ : Type} (W : Nat → σ → Prop) (S : σ → DSt) (GG : σ → Gp) (a0 : σ) (w0 : W 0 a0) (hs : s = S a0) (hG : G = GG a0) (hok : ∀ i a, i ≤ n → W i a → Ok (GG a))
    (hst : ∀ i d a, i < n → item i d → W i a → g d (S a) (GG a) fun s2 G2 => tb ⟨vE σ (W (i + 1)) S GG, E.rt, E.nx, vE σ (W (i + 1)) S GG⟩ s2 G2)
    (hd : ∀ a, W n a → E.nx (S a) (GG a)) : dForC n item Ok g tb E s G := by
  refine ⟨fun i => Ends σ (W i) S GG, ⟨a0, w0, hs, hG⟩, ?_, ?_, ?_⟩
  · rintro i _ _ hi ⟨a, w, rfl, rfl⟩
    exact hok i a hi w
  · rintro i d _ _ hi hit ⟨a, w, rfl, rfl⟩
    exact hst i d a hi hit w
  · rintro _ _ ⟨a, w, rfl, rfl⟩
    exact hd a w
theorem w_st {σ : Type} {W : σ → Prop} {S : σ → DSt} {GG : σ → Gp} (a : σ) (w : W a) (hs : SLe (S a) s) (hk : ∀ b x, GG a b = some x → G b = some x) : vE σ W S GG s G :=
  vN_le hs hk ⟨a, w, rfl, rfl⟩
theorem w_se {σ : Type} {W : σ → Prop} {S : σ → DSt} {GG : σ → Gp} (a : σ) (w : W a) (hs : SLe (S a) s) (hk : G = GG a) : vE σ W S GG s G :=
  vN_le hs (fun _ _ h => by rw [hk]; exact h) ⟨a, w, rfl, rfl⟩
theorem while_st {c : DT} {σ : Type} (W : Nat → σ → Prop) (S : σ → DSt) (GG : σ → Gp) (m0 : Nat) (a0 : σ) (w0 : W m0 a0) (hs : s = S a0) (hG : G = GG a0)
    (hst : ∀ m a, W m a → c (S a) (GG a) fun b G1 => if b = true then tb ⟨vE σ (fun a' => ∃ m', m' < m ∧ W m' a') S GG, E.rt, E.nx, vE σ (fun a' => ∃ m', m' < m ∧ W m' a') S GG⟩ (S a) G1 else E.nx (S a) G1) : dWhile c tb E s G := by
  refine ⟨fun m => Ends σ (W m) S GG, ⟨m0, a0, w0, hs, hG⟩, ?_⟩
  rintro m _ _ ⟨a, w, rfl, rfl⟩
  have e : (fun s' G' => ∃ m', m' < m ∧ Ends σ (W m') S GG s' G') = Ends σ (fun a' => ∃ m', m' < m ∧ W m' a') S GG := by
    funext s' G'
    refine propext ⟨?_, ?_⟩
    · rintro ⟨m', h, a', w', h1, h2⟩
      exact ⟨a', ⟨m', h, w'⟩, h1, h2⟩
    · rintro ⟨a', ⟨m', h, w'⟩, h1, h2⟩
      exact ⟨m', h, a', w', h1, h2⟩
  have z := hst m a w
  unfold vE at z
  rw [← e] at z
  exact z
end
/-- a comprehension whose parts change nothing; R: what is told so far -/
theorem lc_rel {n : Nat} {item : Nat → D → Prop} {Ok : Gp → Prop} {c : CT} {tt : DT} {te : DE} {vs : List Nat} {s : DSt} {G : Gp} {Q : DK} (R : Nat → List D → Prop) (hn : n ≤ 50000) (r0 : R 0 []) (hOk : ∀ p acc, G p = none → Ok (ud G p (.sm (.lst acc))))
    (hst : ∀ i d p acc (N : DK) (M : Gp → Prop), i < n → item i d → G p = none → R i acc → (∀ y, R (i + 1) (acc ++ [y]) → N y (ud G p (.sm (.lst acc)))) → (R (i + 1) acc → M (ud G p (.sm (.lst acc)))) →
      c.put d (wipeD s vs) fun s2 => tt s2 (ud G p (.sm (.lst acc))) fun b G3 => if b = true then te s2 G3 N else M G3)
    (hd : ∀ p acc, G p = none → R n acc → Q (.ref p) (ud G p (.sm (.lst acc)))) : dLcC n item Ok c tt te vs s G Q := by
  intro p hp
  refine ⟨fun i G' => ∃ acc, R i acc ∧ acc.length ≤ i ∧ G' = ud G p (.sm (.lst acc)), ⟨[], r0, Nat.le_refl _, rfl⟩, ?_, ?_, ?_⟩
  · rintro i _ hi ⟨acc, _, _, rfl⟩
    exact hOk p acc hp
  · rintro i d _ hi hit ⟨acc, hr, hl, rfl⟩
    refine hst i d p acc _ _ hi hit hp hr (fun y hy => ⟨acc, ud_same, by omega, vG0 ⟨acc ++ [y], hy, ?_, ud_ud⟩⟩) fun hy => vG0 ⟨acc, hy, by omega, rfl⟩
    rw [List.length_append]
    exact Nat.succ_le_succ hl
  · rintro _ ⟨acc, hr, _, rfl⟩
    exact hd p acc hp hr
/-- the same, by a function of the place -/
theorem lc_pure {n : Nat} {item : Nat → D → Prop} {Ok : Gp → Prop} {c : CT} {tt : DT} {te : DE} {vs : List Nat} {s : DSt} {G : Gp} {Q : DK} (f : Nat → Option D) (hn : n ≤ 50000) (hOk : ∀ p acc, G p = none → Ok (ud G p (.sm (.lst acc))))
    (hst : ∀ i d p acc (N : DK) (M : Gp → Prop), i < n → item i d → G p = none → (∀ y, f i = some y → N y (ud G p (.sm (.lst acc)))) → (f i = none → M (ud G p (.sm (.lst acc)))) → c.put d (wipeD s vs) fun s2 => tt s2 (ud G p (.sm (.lst acc))) fun b G3 => if b = true then te s2 G3 N else M G3)
    (hd : ∀ p, G p = none → Q (.ref p) (ud G p (.sm (.lst ((List.range n).filterMap f))))) : dLcC n item Ok c tt te vs s G Q := by
  refine lc_rel (fun i acc => acc = (List.range i).filterMap f) hn rfl hOk (fun i d p acc N M hi hit hp hr hN hM => ?_) fun p acc hp hr => by rw [hr]; exact hd p hp
  refine hst i d p acc N M hi hit hp (fun y hy => hN y ?_) fun hy => hM ?_
  · rw [hr, List.range_succ, List.filterMap_append, List.filterMap_cons, hy]
    rfl
  · rw [hr, List.range_succ, List.filterMap_append, List.filterMap_cons, hy]
    simp
end Dg
namespace Dg
open PySem PySem.Spec L2
section
variable {K : PySem.W.Frag} {s : DSt} {G : Gp} {Q : DK} {QT : Bool → Gp → Prop} {QA : List D → Gp → Prop} {E : DEnds} {t u : DS} {ta tb tc : DE} {tt tu : DT} {tr : DA} {i j : Int} {p r sc : Addr} {ds es : List D} {d e x y : D} {b neg : Bool} {g : DG} {N : DSt → Gp → Prop} {ns : List Int} {c : CT} {vs : List Nat} {te : DE}
theorem w_lenS (h : ScrAt K G sc ns) (q : Q (.int (ns.length : Int)) G) : cLenS K [.ref sc] G Q := ⟨sc, ns, rfl, h, q⟩
theorem w_ixS {n : Int} (h : ScrAt K G sc ns) (h2 : atI ns i = some n) (q : Q (.int n) G) : eIxS K (.ref sc) (.int i) G Q := ⟨sc, ns, i, n, rfl, h, rfl, h2, q⟩
theorem w_taken {m : Int} (hr : G r = some (gRow K)) (h0 : 0 < m) (h1 : m < 1073741824) (q : ∀ k, 0 ≤ k → k < m → Q (.int k) G) : sp_L_taken K [.ref r, .int m] G Q := ⟨r, m, rfl, hr, h0, h1, q⟩
theorem w_lcR1 (h : tr s G fun ds G1 => ∃ j : Int, ds = [.int j] ∧ (-(2 ^ 62) ≤ j ∧ j < 2 ^ 62) ∧ dLcC j.toNat (fun i d => d = .int (0 + (i : Int))) (fun _ => True) c tt te vs s G1 Q) : dLcR1 tr c tt te vs s G Q := h
theorem w_lcL (h : ta s G fun x G1 => ∃ ds, lstOf G1 x = some ds ∧ dLcC ds.length (fun i d => ds[i]? = some d) (fun G => lstOf G x = some ds) c tt te vs s G1 Q) : dLcL ta c tt te vs s G Q := h
theorem w_lcT (h : ta s G fun x G1 => ∃ ds, x = .tup ds ∧ dLcC ds.length (fun i d => ds[i]? = some d) (fun _ => True) c tt te vs s G1 Q) : dLcT ta c tt te vs s G Q := h
theorem w_exI {P : Int → Prop} (hb : -(2 ^ 62) ≤ j ∧ j < 2 ^ 62) (h : P j) : ∃ k : Int, [D.int j] = [.int k] ∧ (-(2 ^ 62) ≤ k ∧ k < 2 ^ 62) ∧ P k := ⟨j, rfl, hb, h⟩
theorem w_exI2 {P : Int → Int → Prop} (hb : -(2 ^ 62) ≤ i ∧ i < 2 ^ 62 ∧ -(2 ^ 62) ≤ j ∧ j < 2 ^ 62) (h : P i j) : ∃ k l : Int, [D.int i, .int j] = [.int k, .int l] ∧ (-(2 ^ 62) ≤ k ∧ k < 2 ^ 62 ∧ -(2 ^ 62) ≤ l ∧ l < 2 ^ 62) ∧ P k l := ⟨i, j, rfl, hb, h⟩
theorem w_exL {P : List D → Prop} (hl : lstOf G x = some ds) (h : P ds) : ∃ es, lstOf G x = some es ∧ P es := ⟨ds, hl, h⟩
theorem w_exTu {P : List D → Prop} (h : P ds) : ∃ es, D.tup ds = .tup es ∧ P es := ⟨ds, rfl, h⟩
theorem w_forR1 (h : tr s G fun ds G1 => ∃ j : Int, ds = [.int j] ∧ (-(2 ^ 62) ≤ j ∧ j < 2 ^ 62) ∧ dForC j.toNat (fun i d => d = .int (0 + (i : Int))) (fun _ => True) g t E s G1) : dForR1 tr g t E s G := h
theorem w_forR2 (h : tr s G fun ds G1 => ∃ i j : Int, ds = [.int i, .int j] ∧ (-(2 ^ 62) ≤ i ∧ i < 2 ^ 62 ∧ -(2 ^ 62) ≤ j ∧ j < 2 ^ 62) ∧ dForC (j - i).toNat (fun k d => d = .int (i + (k : Int))) (fun _ => True) g t E s G1) : dForR2 tr g t E s G := h
theorem w_forL (h : ta s G fun x G1 => ∃ ds, lstOf G1 x = some ds ∧ dForC ds.length (fun i d => ds[i]? = some d) (fun G => lstOf G x = some ds) g t E s G1) : dForL ta g t E s G := h
theorem w_forT (h : ta s G fun x G1 => ∃ ds, x = .tup ds ∧ dForC ds.length (fun i d => ds[i]? = some d) (fun _ => True) g t E s G1) : dForT ta g t E s G := h
theorem w_cnm {n : Nat} {Q1 : DSt → Prop} (h : Q1 (s.set n (some d))) : (CT.nm n).put d s Q1 := h
theorem w_ctp {is : List Nat} {Q1 : DSt → Prop} (hl : ds.length = is.length) (h : Q1 (setN s is ds)) : (CT.tp is).put (.tup ds) s Q1 := ⟨ds, rfl, hl, h⟩
theorem w_htup {n : Nat} {gs : DGs} {Q1 : DSt → Gp → Prop} (hl : ds.length = n) (h : gs ds s G Q1) : hTup n gs (.tup ds) s G Q1 := ⟨ds, rfl, hl, h⟩
theorem w_yes (h : QT true G) : dYes s G QT := h
theorem w_eqD (hx : valOf G x = some d) (hy : valOf G y = some e) (pd : pl 9 d = true) (pe : pl 9 e = true) (q : ∀ b : Bool, (b = true ↔ d = e) → Q (.bl b) G) : eEqD x y G Q := ⟨d, e, hx, hy, pd, pe, q⟩
theorem w_neD (hx : valOf G x = some d) (hy : valOf G y = some e) (pd : pl 9 d = true) (pe : pl 9 e = true) (q : ∀ b : Bool, (b = true ↔ d = e) → Q (.bl (!b)) G) : eNeD x y G Q := ⟨d, e, hx, hy, pd, pe, q⟩
theorem w_inD (hl : lstOf G y = some ds) (px : pl 9 x = true) (pd : ds.all (pl 8) = true) (q : ∀ b : Bool, (b = true ↔ x ∈ ds) → Q (.bl (neg ^^ b)) G) : eInD neg x y G Q := ⟨ds, hl, px, pd, q⟩
theorem w_inFL (hl : lstOf G y = some ds) (px : flD x = true) (pd : ds.all flD = true) (q : ∀ b : Bool, (b = true ↔ x ∈ ds) → Q (.bl (neg ^^ b)) G) : eInF neg x y G Q := ⟨ds, .inl hl, px, pd, q⟩
theorem w_inFT (px : flD x = true) (pd : ds.all flD = true) (q : ∀ b : Bool, (b = true ↔ x ∈ ds) → Q (.bl (neg ^^ b)) G) : eInF neg x (.tup ds) G Q := ⟨ds, .inr rfl, px, pd, q⟩
theorem w_cat (hx : lstOf G x = some ds) (hy : lstOf G y = some es) (hl : ds.length + es.length ≤ 100000) (q : ∀ p, G p = none → Q (.ref p) (ud G p (.sm (.lst (ds ++ es))))) : eCat x y G Q := ⟨ds, es, hx, hy, hl, q⟩
theorem w_catT (hl : ds.length + es.length ≤ 100000) (q : Q (.tup (ds ++ es)) G) : eCatT (.tup ds) (.tup es) G Q := ⟨ds, es, rfl, rfl, hl, q⟩
theorem w_listL (h : lstOf G x = some ds) (q : ∀ p, G p = none → Q (.ref p) (ud G p (.sm (.lst ds)))) : cList [x] G Q := ⟨x, ds, rfl, .inl h, q⟩
theorem w_insert (h : G p = some (.sm (.lst ds))) (hl : ds.length < 100000) (h0 : 0 ≤ i) (h1 : i < 2 ^ 62) (q : Q .non (ud G p (.sm (.lst (ds.take i.toNat ++ [y] ++ ds.drop i.toNat))))) : mInsert (.ref p) [.int i, y] G Q := ⟨p, ds, i, y, rfl, rfl, h, hl, h0, h1, q⟩
theorem w_pop (h : G p = some (.sm (.lst ds))) (h2 : ds[ds.length - 1]? = some y) (q : Q y (ud G p (.sm (.lst ds.dropLast)))) : mPop (.ref p) [] G Q := ⟨p, ds, y, rfl, rfl, h, h2, q⟩
theorem w_popAt (h : G p = some (.sm (.lst ds))) (h0 : 0 ≤ i) (h1 : i < 2 ^ 62) (h2 : ds[i.toNat]? = some y) (q : Q y (ud G p (.sm (.lst (ds.eraseIdx i.toNat))))) : mPopAt (.ref p) [.int i] G Q := ⟨p, ds, i, y, rfl, rfl, h, h0, h1, h2, q⟩
theorem w_dget (h : ta s G fun x G1 => tb s G1 fun y G2 => ∃ d, LK G2 x y (some d) ∧ Q d G2) : dDGet ta tb s G Q := h
theorem w_din (h : ta s G fun y G1 => tb s G1 fun x G2 => ∃ o, LK G2 x y o ∧ Q (.bl (neg ^^ o.isSome)) G2) : dDIn neg ta tb s G Q := h
theorem w_dget1 (h : ta s G fun x G1 => isDG G1 x ∧ tb s G1 fun y G2 => ∃ o, LK G2 x y o ∧ Q (o.getD .non) G2) : dDGet1 ta tb s G Q := h
theorem w_dpop1 (h : ta s G fun x G1 => isDG G1 x ∧ tb s G1 fun y G2 => ∃ p kvs k d, x = .ref p ∧ G2 p = some (.sm (.dK kvs)) ∧ keyD y = some k ∧ valD kvs k = some d ∧ Q d (ud G2 p (.sm (.dK (dropD kvs k))))) : dDPop1 ta tb s G Q := h
theorem w_dput (h : tc s G fun v G1 => ta s G1 fun x G2 => tb s G2 fun y G3 => PT0 G3 x y v fun G4 => E.nx s G4) : dDPut ta tb tc E s G := h
theorem w_lkK {P : D → Prop} {kvs : List (Key × D)} {k : Key} (h : dKG (G p) = some kvs) (hk : keyD y = some k) (hv : valD kvs k = some d) (q : P d) : ∃ d, LK G (.ref p) y (some d) ∧ P d := ⟨d, hv ▸ LK.k h hk, q⟩
theorem w_lkT {P : D → Prop} {kvs : List (List Key × D)} {k : List Key} (h : dTG (G p) = some kvs) (hk : keyT y = some k) (hv : valD kvs k = some d) (q : P d) : ∃ d, LK G (.ref p) y (some d) ∧ P d := ⟨d, hv ▸ LK.t h hk, q⟩
theorem w_inK {P : Option D → Prop} {kvs : List (Key × D)} {k : Key} (h : dKG (G p) = some kvs) (hk : keyD y = some k) (q : P (valD kvs k)) : ∃ o, LK G (.ref p) y o ∧ P o := ⟨_, LK.k h hk, q⟩
theorem w_inT {P : Option D → Prop} {kvs : List (List Key × D)} {k : List Key} (h : dTG (G p) = some kvs) (hk : keyT y = some k) (q : P (valD kvs k)) : ∃ o, LK G (.ref p) y o ∧ P o := ⟨_, LK.t h hk, q⟩
theorem w_isK {A : Prop} {kvs : List (Key × D)} (h : dKG (G p) = some kvs) (q : A) : isDG G (.ref p) ∧ A := ⟨⟨p, rfl, .inl ⟨kvs, h⟩⟩, q⟩
theorem w_isT {A : Prop} {kvs : List (List Key × D)} (h : dTG (G p) = some kvs) (q : A) : isDG G (.ref p) ∧ A := ⟨⟨p, rfl, .inr ⟨kvs, h⟩⟩, q⟩
theorem w_putK {P : Gp → Prop} {kvs : List (Key × D)} {k : Key} (h : G p = some (.sm (.dK kvs))) (hk : keyD y = some k) (hl : kvs.length < 100000) (q : P (ud G p (.sm (.dK (putD kvs k x))))) : PT0 G (.ref p) y x P := .inl ⟨p, kvs, k, rfl, h, hk, hl, q⟩
theorem w_putT {P : Gp → Prop} {kvs : List (List Key × D)} {k : List Key} (h : G p = some (.sm (.dT kvs))) (hk : keyT y = some k) (hl : kvs.length < 100000) (q : P (ud G p (.sm (.dT (putD kvs k x))))) : PT0 G (.ref p) y x P := .inr ⟨p, kvs, k, rfl, h, hk, hl, q⟩
theorem w_newK (q : ∀ p, G p = none → Q (.ref p) (ud G p (.sm (.dK [])))) : dNewK s G Q := q
theorem w_disp {trs : List (DE × DE)} (h : ∀ p, G p = none → dPairs trs s (ud G p (.sm (.dK []))) fun ps G2 => G2 p = some (.sm (.dK [])) ∧ ∃ kvs, keysD ps = some kvs ∧ kvs.length ≤ 15 ∧ Q (.ref p) (ud G2 p (.sm (.dK (mergeD [] kvs))))) : dDisp trs s G Q := h
theorem w_pnil {QP : List (D × D) → Gp → Prop} (h : QP [] G) : dPairs [] s G QP := h
theorem w_pcons {QP : List (D × D) → Gp → Prop} {trs : List (DE × DE)} (h : ta s G fun x G1 => tb s G1 fun y G2 => dPairs trs s G2 fun ps G3 => QP ((x, y) :: ps) G3) : dPairs ((ta, tb) :: trs) s G QP := h
theorem w_dispE {ps : List (D × D)} {kvs : List (Key × D)} {P : List (Key × D) → Prop} (h1 : G p = some (.sm (.dK []))) (h2 : keysD ps = some kvs) (h3 : kvs.length ≤ 15) (q : P kvs) : G p = some (.sm (.dK [])) ∧ ∃ kvs, keysD ps = some kvs ∧ kvs.length ≤ 15 ∧ P kvs := ⟨h1, kvs, h2, h3, q⟩
theorem w_isi2 {T T2 : String} (h : ta s G fun x G1 => ∃ U b b2, tyN G1 x = some U ∧ kitB U T = some b ∧ kitB U T2 = some b2 ∧ Q (.bl (b || b2)) G1) : dIsi2 T T2 ta s G Q := h
theorem w_isiE {T U : String} {P : Bool → Prop} (h1 : tyN G x = some U) (h2 : kitB U T = some b) (q : P b) : ∃ U b, tyN G x = some U ∧ kitB U T = some b ∧ P b := ⟨U, b, h1, h2, q⟩
theorem w_isiE2 {T T2 U : String} {P : Bool → Bool → Prop} {b2 : Bool} (h1 : tyN G x = some U) (h2 : kitB U T = some b) (h3 : kitB U T2 = some b2) (q : P b b2) : ∃ U b b2, tyN G x = some U ∧ kitB U T = some b ∧ kitB U T2 = some b2 ∧ P b b2 := ⟨U, b, b2, h1, h2, h3, q⟩
theorem w_isi {T : String} (h : ta s G fun x G1 => ∃ U b, tyN G1 x = some U ∧ kitB U T = some b ∧ Q (.bl b) G1) : dIsi T ta s G Q := h
theorem w_lenSet (h : ta s G fun x G1 => ∃ ns : List Int, lstOf G1 x = some (ns.map D.int) ∧ ns.length < 64 ∧ ns.Nodup ∧ Q (.int (ns.length : Int)) G1) : dLenSet ta s G Q := h
theorem w_listRng (h : ta s G fun y G1 => ∃ n : Int, y = .int n ∧ 0 ≤ n ∧ n ≤ 100000 ∧ ∀ p, G1 p = none → Q (.ref p) (ud G1 p (.sm (.lst ((List.range n.toNat).map fun (i : Nat) => D.int (i : Int)))))) : dListRng ta s G Q := h
theorem w_notInRng (h : ta s G fun x G1 => tb s G1 fun y G2 => ∃ i n : Int, x = .int i ∧ y = .int n ∧ Q (.bl (!decide (0 ≤ i ∧ i < n))) G2) : dNotInRng ta tb s G Q := h
theorem w_exII {P : Int → Int → Prop} (h : P i j) : ∃ k l : Int, D.int i = .int k ∧ D.int j = .int l ∧ P k l := ⟨i, j, rfl, rfl, h⟩
end
theorem kb_tu_tu : kitB "tuple" "tuple" = some true := by decide +kernel
theorem kb_tu_li : kitB "tuple" "list" = some false := by decide +kernel
theorem kb_tu_bo : kitB "tuple" "bool" = some false := by decide +kernel
theorem kb_tu_st : kitB "tuple" "str" = some false := by decide +kernel
theorem kb_tu_in : kitB "tuple" "int" = some false := by decide +kernel
theorem kb_li_tu : kitB "list" "tuple" = some false := by decide +kernel
theorem kb_li_li : kitB "list" "list" = some true := by decide +kernel
theorem kb_li_bo : kitB "list" "bool" = some false := by decide +kernel
theorem kb_li_st : kitB "list" "str" = some false := by decide +kernel
theorem kb_li_in : kitB "list" "int" = some false := by decide +kernel
theorem kb_No_tu : kitB "NoneType" "tuple" = some false := by decide +kernel
theorem kb_No_li : kitB "NoneType" "list" = some false := by decide +kernel
theorem kb_No_bo : kitB "NoneType" "bool" = some false := by decide +kernel
theorem kb_No_st : kitB "NoneType" "str" = some false := by decide +kernel
theorem kb_No_in : kitB "NoneType" "int" = some false := by decide +kernel
theorem kb_bo_tu : kitB "bool" "tuple" = some false := by decide +kernel
theorem kb_bo_li : kitB "bool" "list" = some false := by decide +kernel
theorem kb_bo_bo : kitB "bool" "bool" = some true := by decide +kernel
theorem kb_bo_st : kitB "bool" "str" = some false := by decide +kernel
theorem kb_bo_in : kitB "bool" "int" = some true := by decide +kernel
theorem kb_in_tu : kitB "int" "tuple" = some false := by decide +kernel
theorem kb_in_li : kitB "int" "list" = some false := by decide +kernel
theorem kb_in_bo : kitB "int" "bool" = some false := by decide +kernel
theorem kb_in_st : kitB "int" "str" = some false := by decide +kernel
theorem kb_in_in : kitB "int" "int" = some true := by decide +kernel
theorem kb_st_tu : kitB "str" "tuple" = some false := by decide +kernel
theorem kb_st_li : kitB "str" "list" = some false := by decide +kernel
theorem kb_st_bo : kitB "str" "bool" = some false := by decide +kernel
theorem kb_st_st : kitB "str" "str" = some true := by decide +kernel
theorem kb_st_in : kitB "str" "int" = some false := by decide +kernel
def stD (n : Nat) (ds : List D) : DSt := ds.map some ++ List.replicate (n - ds.length) none
/-- what is returned -/
def vRt (Q : DK) : DK := vR Q
/-- a body keeps a promise -/
def Rd (n : Nat) (b : DS) (sp : DSp) : Prop := ∀ ds G Q, sp ds G Q → vN (b { nx := fun _ G' => vRt Q .non G', rt := vRt Q }) (stD n ds) G
theorem fm_range {α β : Type} (f : α → Option β) : ∀ xs : List α, (List.range xs.length).filterMap (fun i => xs[i]?.bind f) = xs.filterMap f
  | [] => rfl
  | x :: xs => by
    rw [List.length_cons, List.range_succ_eq_map, List.filterMap_cons, List.filterMap_cons, List.filterMap_map]
    have e : ((fun i => (x :: xs)[i]?.bind f) ∘ Nat.succ) = fun i => xs[i]?.bind f := by
      funext i
      simp
    rw [e, fm_range f xs]
    simp
/-- a comprehension over a list of data -/
theorem lc_over {α : Type} {xs : List α} {φ : α → D} {Ok : Gp → Prop} {c : CT} {tt : DT} {te : DE} {vs : List Nat} {s : DSt} {G : Gp} {Q : DK} (f : α → Option D) (hn : xs.length ≤ 50000) (hOk : ∀ p acc, G p = none → Ok (ud G p (.sm (.lst acc))))
    (hst : ∀ x p acc (N : DK) (M : Gp → Prop), x ∈ xs → G p = none → (∀ y, f x = some y → N y (ud G p (.sm (.lst acc)))) → (f x = none → M (ud G p (.sm (.lst acc)))) → c.put (φ x) (wipeD s vs) fun s2 => tt s2 (ud G p (.sm (.lst acc))) fun b G3 => if b = true then te s2 G3 N else M G3)
    (hd : ∀ p, G p = none → Q (.ref p) (ud G p (.sm (.lst (xs.filterMap f))))) : dLcC (xs.map φ).length (fun i d => (xs.map φ)[i]? = some d) Ok c tt te vs s G Q := by
  refine lc_pure (fun i => xs[i]?.bind f) (by rw [List.length_map]; exact hn) hOk ?_ ?_
  · intro i d p acc N M hi hit hp hN hM
    rw [List.length_map] at hi
    rw [List.getElem?_map, List.getElem?_eq_getElem hi] at hit
    have hit : φ xs[i] = d := Option.some.inj hit
    subst hit
    rw [List.getElem?_eq_getElem hi, Option.bind_some] at hN hM
    exact hst xs[i] p acc N M (List.getElem_mem hi) hp hN hM
  · intro p hp
    rw [List.length_map, fm_range]
    exact hd p hp
/-- another list stays when a new one comes -/
theorem lstOf_new {G : Gp} {x : D} {ds : List D} {p : Addr} {o : GO} (hx : lstOf G x = some ds) (hp : G p = none) : lstOf (ud G p o) x = some ds := by
  cases x with
  | ref z =>
    refine lst_ref ((ud_ne ?_).trans (lst_own hx))
    rintro rfl
    have := lst_own hx
    rw [hp] at this
    cases this
  | _ => exact hx
theorem vR_vR {Q : DK} {d : D} {G : Gp} (h : vR (vR Q) d G) : vR Q d G := fun F H v i g => by
  obtain ⟨F1, d1, G1, e1, i1, g1, q1⟩ := h F H v i g
  obtain ⟨F3, d3, G3, e3, i3, g3, q3⟩ := q1 F1 H v i1 g1
  exact ⟨F3, d3, G3, e1.trans e3, i3, g3, q3⟩
/-- [script, 0, 0, 0] is the row -/
theorem vR_row {K : PySem.W.Frag} {G : Gp} {Q : DK} {sc : Addr} {ns : List Int} (hs : ScrAt K G sc ns) (h : ∀ p, er G sc p = none → Q (.ref p) (ud (er G sc) p (gRow K))) : ∀ p, G p = none → vR Q (.ref p) (ud G p (.sm (.lst [.ref sc, .int 0, .int 0, .int 0]))) := fun p hp => by
  refine vR_to (fun F H g => row_new g hp hs) (h p ?_)
  unfold er
  split
  · rfl
  · exact hp
theorem frz_let {G : Gp} {Q : DK} {ds : List D} (h : Q (.lst ds) G) : ∀ p, G p = none → vR Q (.ref p) (ud G p (.sm (.lst ds))) := fun p hp => vR_frz hp h
theorem atI_pos {α : Type} {xs : List α} {i : Int} (h0 : 0 ≤ i) (h1 : i < xs.length) : atI xs i = xs[i.toNat]? := by
  unfold atI ixN
  rw [if_pos h0, if_pos h1]
  rfl
theorem ixN_pos {n : Nat} {i : Int} (h0 : 0 ≤ i) (h1 : i < n) : ixN n i = some i.toNat := by
  unfold ixN
  rw [if_pos h0, if_pos h1]
end Dg
namespace Mg
/-- what is joined by steps -/
inductive Rt {α : Type} (R : α → α → Prop) : α → α → Prop
  | refl (a : α) : Rt R a a
  | tail {a b c : α} : Rt R a b → R b c → Rt R a c
theorem Rt.one {α : Type} {R : α → α → Prop} {a b : α} (h : R a b) : Rt R a b := .tail (.refl a) h
theorem Rt.trans {α : Type} {R : α → α → Prop} {a b c : α} (h : Rt R a b) (k : Rt R b c) : Rt R a c := by
  induction k with
  | refl => exact h
  | tail _ s ih => exact .tail ih s
theorem Rt.symm {α : Type} {R : α → α → Prop} (sy : ∀ a b, R a b → R b a) {a b : α} (h : Rt R a b) : Rt R b a := by
  induction h with
  | refl => exact .refl _
  | tail _ s ih => exact (Rt.one (sy _ _ s)).trans ih
theorem Rt.mono {α : Type} {R S : α → α → Prop} (k : ∀ a b, R a b → S a b) {a b : α} (h : Rt R a b) : Rt S a b := by
  induction h with
  | refl => exact .refl _
  | tail _ s ih => exact .tail ih (k _ _ s)
theorem Rt.bind {α : Type} {R S : α → α → Prop} (k : ∀ a b, R a b → Rt S a b) {a b : α} (h : Rt R a b) : Rt S a b := by
  induction h with
  | refl => exact .refl _
  | tail _ s ih => exact ih.trans (k _ _ s)
structure Lk where
  a : Int
  x : Int
  b : Int
  y : Int
  deriving DecidableEq
def getI (ls : List Lk) (k : Int) : Option Lk := if 0 ≤ k then ls[k.toNat]? else none
def Lk.has (l : Lk) (c : Int) : Prop := c = l.a ∨ c = l.b
instance (l : Lk) (c : Int) : Decidable (l.has c) := inferInstanceAs (Decidable (_ ∨ _))
/-- joined by one of the links that have these numbers -/
def Adj (ls : List Lk) (ns : List Int) (u v : Int) : Prop := ∃ k ∈ ns, ∃ l, getI ls k = some l ∧ ((l.a = u ∧ l.b = v) ∨ (l.b = u ∧ l.a = v))
theorem Adj.symm {ls : List Lk} {ns : List Int} (u v : Int) (h : Adj ls ns u v) : Adj ls ns v u := by
  obtain ⟨k, hk, l, hl, h⟩ := h
  exact ⟨k, hk, l, hl, by grind⟩
abbrev Jn (ls : List Lk) (ns : List Int) (u v : Int) : Prop := Rt (Adj ls ns) u v
def trailF (ls : List Lk) : List Int → Int × List Int → Option (Int × List Int)
  | [], st => some st
  | k :: r, (c, m) => match getI ls k with
    | some l => if l.has c ∧ c ∉ m then trailF ls r (if c = l.a then l.b else l.a, m ++ [c]) else none
    | none => none
/-- what is kept of one way -/
structure WayOk (ls : List Lk) (ns : List Int) (u : Int) (keys : List Int) (c : Int) (p : List Int) : Prop where
  tr : ∃ m, trailF ls p (u, []) = some (c, m) ∧ c ∉ m ∧ ∀ x ∈ m, x ∈ keys
  nd : p.Nodup
  inn : ∀ k ∈ p, k ∈ ns
  both : ∀ k ∈ p, ∃ l, getI ls k = some l ∧ l.a ∈ keys ∧ l.b ∈ keys
  jn : Jn ls ns u c
theorem WayOk.mono {ls : List Lk} {ns : List Int} {u : Int} {k1 k2 : List Int} {c : Int} {p : List Int} (h : WayOk ls ns u k1 c p) (k : ∀ x ∈ k1, x ∈ k2) : WayOk ls ns u k2 c p := by
  obtain ⟨⟨m, h1, h2, h3⟩, b, c, d, e⟩ := h
  exact ⟨⟨m, h1, h2, fun x hx => k x (h3 x hx)⟩, b, c, fun j hj => let ⟨l, x, y, z⟩ := d j hj; ⟨l, x, k _ y, k _ z⟩, e⟩
/-- links' boxes are boxes -/
def LsOk (n : Int) (ls : List Lk) : Prop := ∀ l ∈ ls, 0 ≤ l.a ∧ l.a < n ∧ 0 ≤ l.b ∧ l.b < n ∧ l.a ≠ l.b
theorem getI_mem {ls : List Lk} {k : Int} {l : Lk} (h : getI ls k = some l) : l ∈ ls := by
  unfold getI at h
  split at h
  · exact List.mem_of_getElem? h
  · cases h
/-- unlike whole numbers below n are at most n -/
theorem nodup_le : ∀ {n : Nat} {xs : List Int}, xs.Nodup → (∀ x ∈ xs, 0 ≤ x ∧ x < (n : Int)) → xs.length ≤ n
  | 0, xs, _, h => by
    cases xs with
    | nil => simp
    | cons x xs => have := h x (List.mem_cons_self ..); omega
  | n + 1, xs, nd, h => by
    have h1 : (xs.filter fun x => decide (x ≠ (n : Int))).length ≤ n := nodup_le (nd.filter _) fun x hx => by
      have := List.mem_filter.mp hx
      have := h x this.1
      grind
    have h2 : xs.length ≤ (xs.filter fun x => decide (x ≠ (n : Int))).length + 1 := by
      clear h1 h
      induction xs with
      | nil => simp
      | cons x xs ih =>
        have nd2 := List.nodup_cons.mp nd
        by_cases hx : x = (n : Int)
        · have e : (xs.filter fun x => decide (x ≠ (n : Int))) = xs := List.filter_eq_self.mpr fun y hy => by grind
          rw [List.filter_cons_of_neg (by simp [hx]), e]
          simp
        · rw [List.filter_cons_of_pos (by simp [hx])]
          have := ih nd2.2
          simp only [List.length_cons]
          omega
    omega
def gA (f : List Int) (c : Int) : Int := f.getD c.toNat 0
def gPut (f : List Int) (l : Lk) : List Int := (f.set l.a.toNat (min (gA f l.a) (gA f l.b))).set l.b.toNat (min (gA f l.a) (gA f l.b))
def gStep (ls : List Lk) (f : List Int) (k : Int) : List Int := match getI ls k with
  | some l => gPut f l
  | none => f
def rangeI (n : Nat) : List Int := (List.range n).map fun (i : Nat) => (i : Int)
theorem gPut_at {n : Nat} {f : List Int} {l : Lk} (hf : f.length = n) (hl : 0 ≤ l.a ∧ l.a < n ∧ 0 ≤ l.b ∧ l.b < n ∧ l.a ≠ l.b) {c : Int} (h0 : 0 ≤ c) (h1 : c < n) : gA (gPut f l) c = if c = l.a ∨ c = l.b then min (gA f l.a) (gA f l.b) else gA f c := by
  unfold gPut
  simp only [gA, List.getD_eq_getElem?_getD, List.getElem?_set]
  grind
theorem gPut_len {f : List Int} {l : Lk} : (gPut f l).length = f.length := by simp [gPut]
structure GOk (n : Nat) (ls : List Lk) (ns : List Int) (f : List Int) : Prop where
  len : f.length = n
  jn : ∀ c : Int, 0 ≤ c → c < n → Jn ls ns c (gA f c)
  rg : ∀ c : Int, 0 ≤ c → c < n → 0 ≤ gA f c ∧ gA f c < n
theorem GOk.step {n : Nat} {ls : List Lk} {ns : List Int} {f : List Int} {k : Int} (hls : LsOk n ls) (h : GOk n ls ns f) (hk : k ∈ ns) : GOk n ls ns (gStep ls f k) := by
  unfold gStep
  cases e : getI ls k with
  | none => exact h
  | some l =>
    have hl := hls l (getI_mem e)
    have ad : Adj ls ns l.a l.b := ⟨k, hk, l, e, .inl ⟨rfl, rfl⟩⟩
    refine ⟨by rw [gPut_len]; exact h.len, fun c h0 h1 => ?_, fun c h0 h1 => ?_⟩
    · rw [gPut_at h.len hl h0 h1]
      split
      · rename_i hc
        have ja := h.jn l.a hl.1 hl.2.1
        have jb := h.jn l.b hl.2.2.1 hl.2.2.2.1
        rcases (by omega : min (gA f l.a) (gA f l.b) = gA f l.a ∨ min (gA f l.a) (gA f l.b) = gA f l.b) with q | q <;> rw [q] <;> rcases hc with rfl | rfl
        · exact ja
        · exact (Rt.one (Adj.symm _ _ ad)).trans ja
        · exact (Rt.one ad).trans jb
        · exact jb
      · exact h.jn c h0 h1
    · rw [gPut_at h.len hl h0 h1]
      have ja := h.rg l.a hl.1 hl.2.1
      have jb := h.rg l.b hl.2.2.1 hl.2.2.2.1
      split
      · omega
      · exact h.rg c h0 h1
end Mg
namespace Dg
open PySem PySem.Spec L2
open Mg (Lk)
@[reducible] def P2 (p : Int × Int) : D := .tup [.int p.1, .int p.2]
@[reducible] def _root_.Mg.Lk.d (l : Lk) : D := .tup [.int l.a, .int l.x, .int l.b, .int l.y]
def _root_.Mg.Lk.e1 (l : Lk) : Int × Int := (l.a, l.x)
def _root_.Mg.Lk.e2 (l : Lk) : Int × Int := (l.b, l.y)
def endsL (ls : List Lk) : List (Int × Int) := ls.flatMap fun l => [l.e1, l.e2]
@[reducible] def webD (n : Int) (ls : List Lk) : D := .tup [.int n, .tup (ls.map Mg.Lk.d)]
structure LkOk (n : Int) (l : Lk) : Prop where
  ne : l.a ≠ l.b
  a0 : 0 ≤ l.a
  an : l.a < n
  b0 : 0 ≤ l.b
  bn : l.b < n
  x0 : 0 ≤ l.x
  x4 : l.x < 4
  y0 : 0 ≤ l.y
  y4 : l.y < 4
structure WebOk (n : Int) (ls : List Lk) : Prop where
  n1 : 1 ≤ n
  n6 : n ≤ 6
  len : ls.length ≤ 10
  ok : ∀ l ∈ ls, LkOk n l
  nd : (endsL ls).Nodup
  free : (n - 1, (3 : Int)) ∉ endsL ls
/-- no box has two links to lesser ones -/
def Forest (ls : List Lk) : Prop := (ls.map fun l => max l.a l.b).Nodup
def freeD (us : List (Int × Int)) (b : Int) : List Int := [0, 1, 2, 3].filter fun d => decide ((b, d) ∉ us)
theorem P2_inj {p q : Int × Int} (h : P2 p = P2 q) : p = q := by
  obtain ⟨a, b⟩ := p
  obtain ⟨c, d⟩ := q
  simp only [P2, D.tup.injEq, List.cons.injEq, D.int.injEq, and_true] at h
  rw [h.1, h.2]
theorem mem_P2 {p : Int × Int} {ps : List (Int × Int)} : P2 p ∈ ps.map P2 ↔ p ∈ ps := by
  constructor
  · intro h
    obtain ⟨q, h1, h2⟩ := List.mem_map.mp h
    rw [← P2_inj h2]
    exact h1
  · exact fun h => List.mem_map_of_mem h
theorem all_P2 (ps : List (Int × Int)) {n : Nat} : (ps.map P2).all (pl (n + 2)) = true := by
  induction ps with
  | nil => rfl
  | cons p ps ih => rw [List.map_cons, List.all_cons, ih]; rfl
theorem all_int (ns : List Int) {n : Nat} : (ns.map D.int).all (pl (n + 1)) = true := by
  induction ns with
  | nil => rfl
  | cons p ps ih => rw [List.map_cons, List.all_cons, ih]; rfl
def sp_L_free (K : PySem.W.Frag) : DSp := fun ds G Q => ∃ x us b, ds = [x, .int b] ∧ lstOf G x = some (us.map P2) ∧ us.length ≤ 1000 ∧ Q (.lst ((freeD us b).map D.int)) G
def sp_L_link (K : PySem.W.Frag) : DSp := fun ds G Q => ∃ r u us a b, ds = [.ref r, .ref u, .int a, .int b] ∧ G r = some (gRow K) ∧ G u = some (.sm (.lst (us.map P2))) ∧ us.length ≤ 500 ∧ (freeD us a = [] ∨ freeD us b = [] → Q .non G) ∧
  ∀ x y l, x ∈ freeD us a → y ∈ freeD us b → (l = Mg.Lk.mk a x b y ∨ l = Mg.Lk.mk b y a x) → Q l.d (ud G u (.sm (.lst ((us ++ [(a, x), (b, y)]).map P2))))
def sp_L_web (K : PySem.W.Frag) : DSp := fun ds G Q => ∃ r R, ds = [.ref r, .int R] ∧ G r = some (gRow K) ∧ 0 ≤ R ∧ R ≤ 6 ∧ ∀ n ls, WebOk n ls → (R = 0 → Forest ls) → Q (webD n ls) G
theorem w_free {K : PySem.W.Frag} {G : Gp} {Q : DK} {x : D} {us : List (Int × Int)} {b : Int} (hx : lstOf G x = some (us.map P2)) (hl : us.length ≤ 1000) (q : Q (.lst ((freeD us b).map D.int)) G) : sp_L_free K [x, .int b] G Q := ⟨x, us, b, rfl, hx, hl, q⟩
theorem freeD_nil {us : List (Int × Int)} {b : Int} : (D.lst ((freeD us b).map D.int) = .lst []) ↔ freeD us b = [] := by
  rw [D.lst.injEq, List.map_eq_nil_iff]
theorem map_at {ns : List Int} {i : Int} (h0 : 0 ≤ i) (h1 : i < ns.length) : atI (ns.map D.int) i = some (.int (ns[i.toNat]'(by omega))) := by
  rw [atI_pos h0 (by rw [List.length_map]; exact h1), List.getElem?_map, List.getElem?_eq_getElem (by omega)]
  rfl
theorem freeD_len {us : List (Int × Int)} {b : Int} : (freeD us b).length ≤ 4 := by
  have := List.length_filter_le (fun d => decide ((b, d) ∉ us)) [0, 1, 2, 3]
  exact this
theorem mem_freeD {us : List (Int × Int)} {b d : Int} : d ∈ freeD us b ↔ (0 ≤ d ∧ d < 4) ∧ (b, d) ∉ us := by
  unfold freeD
  rw [List.mem_filter]
  simp only [List.mem_cons, List.not_mem_nil, or_false, decide_eq_true_eq]
  grind
theorem len_L_taken {K : PySem.W.Frag} : ∀ ds G Q, sp_L_taken K ds G Q → ds.length = 2 := by rintro _ _ _ ⟨r, m, rfl, _⟩; rfl
theorem len_L_free {K : PySem.W.Frag} : ∀ ds G Q, sp_L_free K ds G Q → ds.length = 2 := by rintro _ _ _ ⟨r, m, b, rfl, _⟩; rfl
theorem len_L_link {K : PySem.W.Frag} : ∀ ds G Q, sp_L_link K ds G Q → ds.length = 4 := by rintro _ _ _ ⟨r, u, us, a, b, rfl, _⟩; rfl
theorem len_L_web {K : PySem.W.Frag} : ∀ ds G Q, sp_L_web K ds G Q → ds.length = 2 := by rintro _ _ _ ⟨r, m, rfl, _⟩; rfl
end Dg
namespace Dg
open PySem PySem.Spec L2
open Mg (Lk)
@[reducible] def lsD (ls : List Lk) : D := .tup (ls.map Lk.d)
def sp_is_door (K : PySem.W.Frag) : DSp := fun ds G Q => ∃ n b d, ds = [.int n, .int b, .int d] ∧ Q (.bl (decide ((0 ≤ b ∧ b < n) ∧ 0 ≤ d ∧ d < 4))) G
def sp_need_web (K : PySem.W.Frag) : DSp := fun ds G Q => ∃ n ls, ds = [webD n ls] ∧ WebOk n ls ∧ Q .non G
theorem len_is_door {K : PySem.W.Frag} : ∀ ds G Q, sp_is_door K ds G Q → ds.length = 3 := by rintro _ _ _ ⟨_, _, _, rfl, _⟩; rfl
theorem len_need_web {K : PySem.W.Frag} : ∀ ds G Q, sp_need_web K ds G Q → ds.length = 1 := by rintro _ _ _ ⟨_, _, rfl, _⟩; rfl
end Dg
namespace Dg
open PySem PySem.Spec L2
section
variable {X : Cx} {K : PySem.W.Frag}
theorem IsP.lookup {F : Fz} {H : Hp} {f : Str} : ∀ {fs : List (Str × D)} {gs : List (Str × V)}, IsP F H fs gs → RelOD F H (fs.lookup f) (gs.lookup f)
  | _, _, .nil => trivial
  | (g, d) :: r, (g', v) :: t, .cons h hs => by
    obtain ⟨rfl, hd⟩ : g = g' ∧ Is F H d v := h
    rw [List.lookup_cons, List.lookup_cons]
    cases f == g with
    | true => exact hd
    | false => exact IsP.lookup hs
def putFD (f : Str) (d : D) : List (Str × D) → List (Str × D)
  | [] => [(f, d)]
  | (g, x) :: r => if g = f then (g, d) :: r else (g, x) :: putFD f d r
theorem putFD_rel {F : Fz} {H : Hp} {f : Str} {d : D} {v : V} (hd : Is F H d v) : ∀ {fs : List (Str × D)} {gs : List (Str × V)}, IsP F H fs gs → IsP F H (putFD f d fs) (putF f v gs)
  | _, _, .nil => .cons ⟨rfl, hd⟩ .nil
  | (g, x) :: r, (g', y) :: t, .cons h hs => by
    obtain ⟨rfl, hx⟩ : g = g' ∧ Is F H x y := h
    unfold putFD putF
    by_cases e : g = f
    · rw [if_pos e, if_pos e]
      exact .cons ⟨rfl, hd⟩ hs
    · rw [if_neg e, if_neg e]
      exact .cons ⟨rfl, hx⟩ (putFD_rel hd hs)
/-- o.f -/
def dFld (C : Addr) (f : Str) (t : DE) : DE := fun s G Q => t s G fun x G1 => ∃ p dx fs d, x = .ref p ∧ G1 p = some (.sm (.ins C dx fs)) ∧ fs.lookup f = some d ∧ Q d G1
theorem qe_fld {C : Addr} {e : Expr} {f : Str} {pos : Pos} {t : DE} (c : Cls X.K C) (n : NoAttr X.K C f) (he : QE X e t) (hb : attributeBase e f X.env (eval e X.env) = eval e X.env := by rfl) : QE X (.Attribute e f pos) (dFld C f t) := PE.weak (pe_fld he hb) fun σ H Q h => by
  obtain ⟨F, s, G, Q', hs, hg, h, k⟩ := h
  refine lE_b hs hg h fun v H1 F1 d G1 e1 s1 g1 i1 ⟨p, dx, fs, d2, hx, hp, hl, q⟩ => ?_
  subst hx
  obtain ⟨z, hz, gs, rfl, hf⟩ := g1.get hp
  have hr := IsP.lookup (f := f) hf
  rw [hl] at hr
  cases hv : gs.lookup f with
  | none => rw [hv] at hr; exact hr.elim
  | some w =>
    rw [hv] at hr
    exact ⟨p, C, dx, gs, w, is_ref.mp i1, hz, c, n, hv, k _ H1 F1 _ G1 e1 g1 hr q⟩
/-- o.f = v -/
def dFldS (C : Addr) (f : Str) (to tv : DE) : DS := fun E s G => tv s G fun y G1 => to s G1 fun x G2 => ∃ p dx fs, x = .ref p ∧ G2 p = some (.sm (.ins C dx fs)) ∧ fs.length < 1000 ∧ E.nx s (ud G2 p (.sm (.ins C dx (putFD f y fs))))
theorem qs_fld {C : Addr} {o value : Expr} {f : Str} {pos pos' : Pos} {to tv : DE} (c : Cls X.K C) (n : NoAttr X.K C f) (ha : QE X o to) (hv : QE X value tv) (hs : swapsWith value (some (.Attribute o f pos')) pos.line X.env = pure false := by rfl) : QS X (.Assign [.Attribute o f pos'] value pos) (dFldS C f to tv) :=
  PS.weak (ps_fld ha hv hs) fun E σ H h => by
    obtain ⟨F, s, G, E', hs, hg, h, k⟩ := h
    refine lE_b hs hg h fun y H1 F1 dy G1 e1 s1 g1 i1 h1 => ?_
    refine lE_b s1 g1 h1 fun x H2 F2 dx2 G2 e2 s2 g2 i2 ⟨p, dx, fs, hx, hp, hl, q⟩ => ?_
    subst hx
    obtain ⟨z, hz, gs, rfl, hf⟩ := g2.get hp
    have e5 := ext_own (z := .ins C dx (putF f y gs)) g2 hp
    exact ⟨p, C, dx, gs, is_ref.mp i2, hz, c, n, by rw [hf.length]; exact hl, k.nx _ _ F2 _ _ ((e1.trans e2).trans e5) (s2.mono e5) (g2.set (o' := .ins C dx (putFD f dy fs)) hp ⟨_, rfl, putFD_rel ((i1.mono e2).mono e5) (hf.mono e5)⟩) q⟩
/-- an instance of the class at C stands there, m no attribute of its own -/
def insAt (G : Gp) (p : Addr) (C : Addr) (m : Str) : Prop := (∃ dx fs, G p = some (.sm (.ins C dx fs)) ∧ fs.lookup m = none) ∨ ∃ L, G p = some (.cmp L) ∧ ∀ ps, L p ps → ∃ dx fs, (p, SO.ins C dx fs) ∈ ps ∧ fs.lookup m = none
theorem insAt_ok {F : Fz} {H : Hp} {G : Gp} (g : Hg F H G) {p C : Addr} {m : Str} (h : insAt G p C m) : ∃ dx gs, H p = some (.ins C dx gs) ∧ gs.lookup m = none := by
  have key : ∀ {dx fs z}, H p = some z → Sm F H (.ins C dx fs) z → fs.lookup m = none → ∃ dx gs, H p = some (.ins C dx gs) ∧ gs.lookup m = none := by
    rintro dx fs z hz ⟨gs, rfl, hf⟩ hl
    have hr := IsP.lookup (f := m) hf
    rw [hl] at hr
    refine ⟨dx, gs, hz, ?_⟩
    cases hv : gs.lookup m with
    | none => rfl
    | some w => rw [hv] at hr; exact hr.elim
  rcases h with ⟨dx, fs, hp, hl⟩ | ⟨L, hp, hL⟩
  · obtain ⟨z, hz, hs⟩ := g.get hp
    exact key hz hs hl
  · obtain ⟨S, ow, hs, f⟩ := g.ex
    obtain ⟨_, ps, l, _, hb⟩ := f p _ hp
    obtain ⟨dx, fs, hm, hl⟩ := hL ps l
    obtain ⟨_, z, hz, hz2⟩ := hs p _ (hb p _ hm).1
    exact key hz hz2 hl
/-- o.m(..) -/
def dMeth (C : Addr) (m : Str) (sp : DSp) (to : DE) (t : DA) : DE := fun s G Q => to s G fun x G1 => ∃ p, x = .ref p ∧ insAt G1 p C m ∧ t s G1 fun ds G2 => sp (x :: ds) G2 Q
theorem lE_meth {C : Addr} {m : Str} {sp : DSp} {E : XK} {to : DE} {t : DA} {ta : TA} (hta : ∀ σ H Q, lA t σ H Q → ta σ H Q) {σ : St} {H : Hp} {Q : VK} (h : lE (dMeth C m sp to t) σ H Q) : tMeth C m (lSp sp) [] E (lE to) ta σ H Q := by
  obtain ⟨F, s, G, Q', hs, hg, h, k⟩ := h
  refine lE_b hs hg h fun v H1 F1 d G1 e1 s1 g1 i1 ⟨p, hx, hp, h1⟩ => ?_
  subst hx
  obtain ⟨dx, gs, h2, h3⟩ := insAt_ok g1 hp
  refine ⟨p, dx, gs, is_ref.mp i1, h2, h3, hta _ _ _ (lA_b s1 g1 h1 fun vs H2 F2 ds G2 e2 s2 g2 i2 q => ?_)⟩
  show lSp sp (v :: (vs ++ [])) H2 Q E
  rw [List.append_nil]
  exact ⟨F2, .ref p :: ds, G2, Q', IsL.cons (i1.mono e2) i2, g2, q, k.step (e1.trans e2)⟩
/-- a method that keeps its promise -/
structure Mt (P : Program) (w : World) (K : PySem.W.Frag) (mg : Str → Option Value) (base : Heap) (C : Addr) (m : Str) (ps : List Str) (k : Nat) (sp : DSp) : Prop where
  ex : ∃ f fd, FnOk P w K mg base CX0 k f fd ps (lSp sp) ∧ Cls K C ∧ Meth K C m f ∧ Binds K fd ps []
theorem qe_meth {C : Addr} {m : Str} {o e : Expr} {es : List Expr} {apos pos : Pos} {k j : Nat} {ps : List Str} {sp : DSp} {to : DE} {t : DA} {pl : Sem Bool} (M : Mt X.prog X.w X.K X.mg X.base C m ps k sp) (hr : Room j X.A) (hj : k ≤ j) (he : QE X o to) (ha : QA X (e :: es) t)
    (hst : starEach (e :: es) X.env = (false, eval e X.env) :: starEach es X.env := by rfl) (hpl : (backTo pos (starEach es X.env)).any (·.1) = false := by rfl)
    (ht : eval (.Call (.Attribute o m apos) (e :: es) [] pos) X.env = (do
      let ov ← eval o X.env
      standAt apos.atName
      let (f, first) ← holding [ov] (getMethod ov m pl)
      callWith pos f first (backTo pos (starEach (e :: es) X.env)) (backToKw pos (keywordEach [] X.env))) := by rfl) : QE X (.Call (.Attribute o m apos) (e :: es) [] pos) (dMeth C m sp to t) := by
  obtain ⟨f, fd, h1, h2, h3, h4⟩ := M.ex
  exact PE.weak (pe_meth he h2 h3 h1 (hr.mono hj) h4 .nil pass0 ha hst hpl ht) fun _ _ _ z => lE_meth (fun _ _ _ z => z) z
theorem qe_meth0 {C : Addr} {m : Str} {o : Expr} {apos pos : Pos} {k j : Nat} {ps : List Str} {sp : DSp} {to : DE} {pl : Sem Bool} (M : Mt X.prog X.w X.K X.mg X.base C m ps k sp) (hr : Room j X.A) (hj : k ≤ j) (he : QE X o to)
    (ht : eval (.Call (.Attribute o m apos) [] [] pos) X.env = (do
      let ov ← eval o X.env
      standAt apos.atName
      let (f, first) ← holding [ov] (getMethod ov m pl)
      callWith pos f first (backTo pos (starEach [] X.env)) (backToKw pos (keywordEach [] X.env))) := by rfl) : QE X (.Call (.Attribute o m apos) [] [] pos) (dMeth C m sp to dNil) := by
  obtain ⟨f, fd, h1, h2, h3, h4⟩ := M.ex
  refine PE.weak (pe_meth0 he h2 h3 h1 (hr.mono hj) h4 .nil pass0 ht) fun _ _ _ z => lE_meth (fun σ H Q z => ?_) z
  obtain ⟨F, s, G, Q', hs, hg, h, k⟩ := z
  exact k [] H F [] G (Ext.refl F H) hg IsL.nil h
/-- C(..) -/
def dMake (C : Addr) (sp : DSp) (t : DA) : DE := fun s G Q => t s G fun ds G1 => ∀ x dx, G1 x = none → sp (.ref x :: ds) (ud G1 x (.sm (.ins C dx []))) fun v G2 => v = .non ∧ Q (.ref x) G2
structure Mkr (P : Program) (w : World) (K : PySem.W.Frag) (mg : Str → Option Value) (base : Heap) (x : Str) (C : Addr) (ps : List Str) (k : Nat) (sp : DSp) : Prop where
  ex : ∃ f fd, FnOk P w K mg base CX0 k f fd ps (lSp sp) ∧ Mk K C f ∧ mg x = some (.ref C) ∧ Binds K fd ps []
theorem qe_make {x : Str} {C : Addr} {p pos : Pos} {e : Expr} {es : List Expr} {k j : Nat} {ps : List Str} {sp : DSp} {t : DA} (M : Mkr X.prog X.w X.K X.mg X.base x C ps k sp) (hr : Room j X.A) (hj : k + 1 ≤ j) (hg : Gl X x) (ha : QA X (e :: es) t)
    (hdb : (x == ("__debug__" : Str)) = false := by decide) (he : starEach (e :: es) X.env = (false, eval e X.env) :: starEach es X.env := by rfl) (hpl : (backTo pos (starEach es X.env)).any (·.1) = false := by rfl) : QE X (.Call (.Name x p) (e :: es) [] pos) (dMake C sp t) := by
  obtain ⟨f, fd, h1, h2, h3, h4⟩ := M.ex
  refine PE.weak (pe_make h2 h1 (hr.mono hj) hg h3 h4 .nil pass0 ha hdb he hpl) fun σ H Q z => ?_
  obtain ⟨F, s, G, Q', hs, hg, h, k⟩ := z
  refine lA_b hs hg h fun vs H1 F1 ds G1 e1 s1 g1 i1 q => ?_
  intro x dx hx hdx hne
  have ex1 : Ext F1 H1 F1 (upd H1 dx (.own x)) := ext_new g1.fok hdx
  have g2 : Hg F1 (upd H1 dx (.own x)) G1 := g1.newT hdx
  have hx2 : upd H1 dx (.own x) x = none := by rw [upd_ne (Ne.symm hne)]; exact hx
  have ex2 : Ext F1 (upd H1 dx (.own x)) F1 (upd (upd H1 dx (.own x)) x (.ins C dx [])) := ext_new g2.fok hx2
  have g3 := g2.new (o := .ins C dx []) (z := .ins C dx []) hx2 ⟨[], rfl, .nil⟩
  show lSp sp (.ref x :: (vs ++ [])) _ _ _
  rw [List.append_nil]
  refine ⟨F1, .ref x :: ds, _, _, IsL.cons (is_ref.mpr rfl) (i1.mono (ex1.trans ex2)), g3, q x dx (g1.fresh hx), fun v H' F' d G' e g i ⟨hv, q2⟩ => ?_⟩
  subst hv
  exact ⟨is_non.mp i, k _ H' F' _ G' (((e1.trans ex1).trans ex2).trans e) g (is_ref.mpr rfl) q2⟩
def dLockK (t : DE) : DE := fun s G Q => ∃ p kvs, G p = some (.sm (.dK kvs)) ∧ ∀ z, t s (ud G p (.sm (.lkK z kvs))) fun v G' => G' p = some (.sm (.lkK z kvs)) ∧ Q v (ud G' p (.sm (.dK kvs)))
theorem qe_lockK {e : Expr} {t : DE} (h : QE X e t) : QE X e (dLockK t) := PE.weak (pe_lock h) fun σ H Q z => by
  obtain ⟨F, s, G, Q', hs, hg, ⟨p, kvs, hp, h⟩, k⟩ := z
  obtain ⟨z, hz, vs, rfl, hl⟩ := hg.get hp
  refine ⟨p, .dK vs, hz, trivial, fun od => ?_⟩
  have e5 := ext_own (z := .frz od (.dK vs)) hg hp
  have g5 := hg.set (o' := .lkK (.frz od (.dK vs)) kvs) (z := .frz od (.dK vs)) hp ⟨rfl, od, vs, rfl, hl.mono e5⟩
  refine lE_b (hs.mono e5) g5 (h _) fun v H1 F1 d G1 e1 s1 g1 i1 ⟨hq, q⟩ => ?_
  obtain ⟨z2, hz2, rfl, o2, vs2, h3, h4⟩ := g1.get hq
  refine ⟨hz2, ?_⟩
  have h5 : vs = vs2 := by
    have := HO.frz.inj h3
    exact HO.dK.inj this.2
  subst h5
  have e6 := ext_own (z := .dK vs) g1 hq
  exact k _ _ F1 _ _ ((e5.trans e1).trans e6) (g1.set (o' := .dK kvs) hq ⟨_, rfl, h4.mono e6⟩) (i1.mono e6) q
/-- the keys, walked -/
theorem walk_K {F1 : Fz} {H1 : Hp} {p : Addr} {od : Obj} {vs : List (Key × V)} {kvs : List (Key × D)} {z : HO} (hz : z = .frz od (.dK vs)) (hl : IsP F1 H1 kvs vs) : WalkD (Itk p od vs) kvs.length (fun i d => ∃ k v, kvs[i]? = some (k, v) ∧ ((∃ n, k = .inl n ∧ d = .int n) ∨ ∃ x, k = .inr x ∧ d = .str x)) (fun G => G p = some (.sm (.lkK z kvs))) F1 H1 := by
  have key : ∀ F H G, Hg F H G → G p = some (.sm (.lkK z kvs)) → H p = some (.frz od (.dK vs)) := fun F H G hg hok => by
    obtain ⟨y, hy, h0, _⟩ := hg.get hok
    rw [hy, h0, hz]
  have hlen := hl.length
  refine ⟨fun i F H G hi ex hg hok => ⟨key F H G hg hok, by omega⟩, fun F H G ex hg hok => ⟨key F H G hg hok, by omega⟩, fun i F H G v H' hi ex hg hok y => ?_⟩
  obtain ⟨e, k, w, hk, rfl⟩ := y
  refine ⟨e, ?_⟩
  have hkeys := hl.keys
  have h2 : (kvs.map (·.1))[i]? = some k := by rw [← hkeys, List.getElem?_map, hk]; rfl
  rw [List.getElem?_map, List.getElem?_eq_getElem hi] at h2
  have h2 : kvs[i].1 = k := Option.some.inj h2
  cases k with
  | inl n => exact ⟨.int n, ⟨.inl n, kvs[i].2, by rw [List.getElem?_eq_getElem hi, ← h2], .inl ⟨n, rfl, rfl⟩⟩, is_int.mpr rfl⟩
  | inr x => exact ⟨.str x, ⟨.inr x, kvs[i].2, by rw [List.getElem?_eq_getElem hi, ← h2], .inr ⟨x, rfl, rfl⟩⟩, is_str.mpr rfl⟩
/-- [.. for k in d], d locked, int keys -/
def dLcK (tl : DE) (c : CT) (tt : DT) (te : DE) (vs : List Nat) : DE := fun s G Q => tl s G fun x G1 => ∃ p z ks us, x = .ref p ∧ G1 p = some (.sm (.lkK z (ks.zip us))) ∧ ks.length = us.length ∧ ∃ ns : List Int, ks = ns.map Sum.inl ∧ dLcC ns.length (fun i d => (ns.map D.int)[i]? = some d) (fun G => G p = some (.sm (.lkK z (ks.zip us)))) c tt te vs s G1 Q
theorem lE_lcK {tl : DE} {c : CT} {tt : DT} {tt' : TT} (htt : ∀ σ H Q, lT tt σ H Q → tt' σ H Q) {te : DE} {vs : List Nat} (hcv : ∀ i ∈ c.sl, i ∈ vs) {σ : St} {H : Hp} {Q : VK} (h : lE (dLcK tl c tt te vs) σ H Q) : tLc (iKeys (lE tl)) (c.g K) tt' (lE te) vs σ H Q := by
  obtain ⟨F, s, G, Q', hs, hg, h, k⟩ := h
  refine lE_b hs hg h fun v H1 F1 d G1 e1 s1 g1 i1 ⟨p, z, ks, us, hx, hp, hlen, ns, hns, h1⟩ => ?_
  subst hx
  obtain ⟨y, hy, h0, od, vv, h3, h4⟩ := g1.get hp
  subst h0
  subst h3
  refine ⟨p, od, is_ref.mp i1, .inl ⟨vv, hy, ?_⟩⟩
  have w := walk_K (p := p) (z := .frz od (.dK vv)) rfl h4
  have hzl : (ks.zip us).length = ns.length := by
    rw [List.length_zip, ← hlen, Nat.min_self, hns, List.length_map]
  have w2 : WalkD (Itk p od vv) ns.length (fun i d => (ns.map D.int)[i]? = some d) (fun G => G p = some (.sm (.lkK (.frz od (.dK vv)) (ks.zip us)))) F1 H1 := by
    rw [hzl] at w
    refine ⟨w.go, w.stop, fun i F H G x H' hi ex hg hok y => ?_⟩
    obtain ⟨e, d, ⟨k, u, hk, hd⟩, hix⟩ := w.yld i F H G x H' hi ex hg hok y
    refine ⟨e, d, ?_, hix⟩
    have hk2 : ks[i]? = some k := by
      rw [List.getElem?_zip_eq_some] at hk
      exact hk.1
    rw [hns, List.getElem?_map, List.getElem?_eq_getElem hi] at hk2
    have hk2 : Sum.inl ns[i] = k := Option.some.inj hk2
    rw [List.getElem?_map, List.getElem?_eq_getElem hi]
    rcases hd with ⟨n, h5, rfl⟩ | ⟨n, h5, rfl⟩
    · rw [← hk2] at h5
      cases h5
      rfl
    · rw [← hk2] at h5
      cases h5
  exact lcC_ok w2 htt hcv s1 g1 h1 (k.step e1)
theorem qe_lcK {elt tg l : Expr} {ifs : List Expr} {scope : Scope} {own : List (Str × Nat)} {pos : Pos} {tl : DE} {c : CT} {tt : DT} {tt' : TT} {te : DE} (hc : X.calm = true) (hN : X.N.Nodup) (hl : QE X l tl) (ok : BlkOk X.N X.env.scope scope own)
    (hg : ∀ (s : Shared) (H : Hp) (C : Addr) (cl : List (Str × Addr)) (fp : List Addr), PG (X.blk s H scope (compEnvC scope cl C X.env) fp) tg (c.g X.K)) (ht : ∀ (s : Shared) (H : Hp) (C : Addr) (cl : List (Str × Addr)) (fp : List Addr), PTs (X.blk s H scope (compEnvC scope cl C X.env) fp) ifs tt')
    (htt : ∀ σ H Q, lT tt σ H Q → tt' σ H Q) (he : ∀ (s : Shared) (H : Hp) (C : Addr) (cl : List (Str × Addr)) (fp : List Addr), QE (X.blk s H scope (compEnvC scope cl C X.env) fp) elt te) (hcv : ∀ i ∈ c.sl, i ∈ own.map (·.2)) (hs : ∀ x, foldedSetIterable l X.env x = pure x := by intro _; rfl) :
    QE X (.ListComp elt [⟨tg, l, ifs, 0⟩] scope pos) (dLcK tl c tt te (own.map (·.2))) := PE.weak (pe_lc hc hN (pi_keys hl) ok hg ht he hs) fun _ _ _ z => lE_lcK htt hcv z
def cMaxL : List D → Gp → DK → Prop := fun xs G Q => ∃ x ns, xs = [x] ∧ lstOf G x = some (ns.map D.int) ∧ ns ≠ [] ∧ ∀ m, m ∈ ns → (∀ y ∈ ns, y ≤ m) → Q (.int m) G
theorem sc_maxL : SC (rMax K) cMaxL := by
  rintro F H G xs ds Q Q' hG il ⟨x, ns, rfl, hx, hne, q⟩ k
  obtain ⟨v, rfl, iv⟩ := isL_one il
  obtain ⟨a, vs, rfl, h1, h2⟩ := lstOf_ok hG iv hx
  rw [h2.ints] at h1
  exact ⟨a, ns, rfl, .inl (.inl h1), List.length_pos_iff.mpr hne, fun m hm hy => k.fin hG (is_int.mpr rfl) (q m hm hy)⟩
/-- sorted(d), int keys -/
def cSortK : List D → Gp → DK → Prop := fun xs G Q => ∃ p kvs ks, xs = [.ref p] ∧ dKG (G p) = some kvs ∧ kvs.map (·.1) = ks.map Sum.inl ∧ ks.length < 64 ∧ ∀ ys : List Int, ys.Perm ks → ys.Pairwise (· ≤ ·) → ∀ q, G q = none → Q (.ref q) (ud G q (.sm (.lst (ys.map D.int))))
theorem sc_sortK : SC (fun xs H Q => ∃ (a : Addr) (kvs : List (Key × V)) (ks : List Int), xs = [.ref a] ∧ L2.Rd H a (.dK kvs) ∧ kvs.map (·.1) = ks.map Sum.inl ∧ ks.length < 64 ∧ ∀ (ys : List Int) (p : Addr), ys.Perm ks → ys.Pairwise (· ≤ ·) → H p = none → Q (.ref p) (upd H p (.lst (ys.map V.int)))) cSortK := by
  rintro F H G xs ds Q Q' hG il ⟨p, kds, ks, rfl, hp, hk, h64, q⟩ k
  obtain ⟨v, rfl, iv⟩ := isL_one il
  obtain ⟨kvs, h1, h2⟩ := dKG_ok hG hp
  exact ⟨p, kvs, ks, by rw [is_ref.mp iv], h1, by rw [h2.keys]; exact hk, h64, fun ys z hp1 hp2 hz => k.newL hG IsL.of_ints (q ys hp1 hp2) z hz⟩
/-- a tuple of ints -/
def TN (ns : List Int) : D := .tup (ns.map D.int)
end
end Dg
namespace Dg
open PySem PySem.Spec L2
open PyProof.Rows
def ltP (a b : Int × Int) : Prop := a.1 < b.1 ∨ (a.1 = b.1 ∧ a.2 < b.2)
instance (a b : Int × Int) : Decidable (ltP a b) := inferInstanceAs (Decidable (_ ∨ _))
def prD (p : Int × Int) : PyData := .tuple [.int p.1, .int p.2]
theorem minP_fold : ∀ (rest : List (Int × Int)) (p : Int × Int), ∃ m, m ∈ p :: rest ∧ (∀ q ∈ p :: rest, ¬ ltP q m) ∧ PySem.W.minD (prD p) (rest.map prD) = prD m
  | [], p => ⟨p, List.mem_cons_self .., by unfold ltP; simp only [List.mem_singleton]; rintro q rfl; omega, rfl⟩
  | r :: rest, p => by
    have e : PySem.W.minD (prD p) ((r :: rest).map prD) = PySem.W.minD (prD (if ltP r p then r else p)) (rest.map prD) := by
      unfold PySem.W.minD
      rw [List.map_cons, List.foldl_cons]
      congr 1
      have h : PySem.W.dataLt (prD r) (prD p) = decide (ltP r p) := PySem.W.dataLt_ii ..
      rw [h]
      by_cases c : ltP r p
      · rw [decide_eq_true c, if_pos rfl, if_pos c]
      · rw [decide_eq_false c, if_neg Bool.false_ne_true, if_neg c]
    obtain ⟨m, h1, h2, h3⟩ := minP_fold rest (if ltP r p then r else p)
    refine ⟨m, ?_, ?_, e.trans h3⟩
    · by_cases c : ltP r p
      · rw [if_pos c] at h1
        rcases List.mem_cons.mp h1 with z | z <;> simp [z]
      · rw [if_neg c] at h1
        rcases List.mem_cons.mp h1 with z | z <;> simp [z]
    · intro q hq
      have h2' := h2 (if ltP r p then r else p) (List.mem_cons_self ..)
      rcases List.mem_cons.mp hq with z | hq
      · subst z
        by_cases c : ltP r q
        · rw [if_pos c] at h2'
          unfold ltP at *
          omega
        · rw [if_neg c] at h2'
          exact h2'
      · rcases List.mem_cons.mp hq with z | hq
        · subst z
          by_cases c : ltP q p
          · rw [if_pos c] at h2'
            exact h2'
          · rw [if_neg c] at h2'
            unfold ltP at *
            omega
        · exact h2 q (List.mem_cons_of_mem _ hq)
/-- min(xs): which one it is -/
theorem min_at {prog : Program} {w : World} {A : Around} {E : Value → Shared → Prop} {s : Shared} {l : Addr} {vs : Array Value} {x : PyData} {xs : List PyData} {as : List Addr} {Q : Value → Shared → Prop} (hh : A.handled = none) (hl : s.heap.IsList l vs) (hr : ReadsAll s.heap vs.toList (x :: xs) as)
    (ha : PySem.W.AlikeAll (x :: xs)) (hu : A.units + 1 + PyData.depthAll (x :: xs) < cLine) (h : ∀ (i : Nat) v h' tk, vs[i]? = some v → (x :: xs).getD i .none = PySem.W.minD x xs → (∀ b o, s.heap.get? b = some o → h'.get? b = some o) → Q v { s with heap := h', toks := tk }) :
    wpAny (model prog w) A (call (.builtin "min") [.ref l]) Q E s := by
  have hn : xs.length = vs.size - 1 ∧ 0 < vs.size := by
    have := PySem.W.readsAll_len hr
    simp only [List.length_cons] at this
    omega
  have fold := (PySem.W.argBest_fold PySem.W.dataLt .none x xs xs.length (Nat.le_refl _)).2
  rw [List.take_length, hn.1] at fold
  refine PySem.call_min_walkH (PySem.W.iter_listW (A := A.in1) hh hl fun s2 e W st hfp hw hk => ⟨_, _, _, _, _, _, _, s.heap, _, rfl, W, st, hfp, hn.2, hw, hk, PySem.W.cmpIn_lt (A := A.in1) hr ha hu, fun v s3 hP mv => ?_⟩)
  obtain ⟨h2, tk, rfl, keep⟩ := PySem.W.moved_old e rfl mv
  exact h _ v h2 tk hP fold keep
section
variable {X : Cx} {K : PySem.W.Frag}
def rMinP (K : PySem.W.Frag) : List V → Hp → VK → Prop := fun vs H Q => ∃ (a : Addr) (xs : List V) (ps : List (Int × Int)), vs = [V.ref a] ∧ SqL K H a xs ∧ DpAll K H xs (ps.map prD) ∧ ps ≠ [] ∧ ∀ (i : Nat) v m, xs[i]? = some v → ps[i]? = some m → (∀ q ∈ ps, ¬ ltP q m) → Q v H
theorem vals_at : ∀ {xs : List V} {us : List Value} {i : Nat} {u : Value}, Vals xs us → us[i]? = some u → ∃ v, xs[i]? = some v ∧ RelV v u
  | _, _, i, u, .nil, h => by cases i <;> cases h
  | v :: _, u' :: _, 0, u, .cons r _, h => by cases h; exact ⟨v, rfl, r⟩
  | _ :: _, _ :: _, i + 1, u, .cons _ t, h => by
    obtain ⟨w, h1, h2⟩ := vals_at (i := i) t (by simpa using h)
    exact ⟨w, by simpa using h1, h2⟩
theorem depth_pr : ∀ ps : List (Int × Int), PyData.depthAll (ps.map prD) ≤ 1
  | [] => Nat.zero_le _
  | p :: ps => by
    rw [List.map_cons, PyData.depthAll]
    exact Nat.max_le.mpr ⟨by simp [prD, PyData.depth, PyData.depthAll], depth_pr ps⟩
theorem cr_minP (hc : X.calm = true) (hu : X.A.units + 65 < cLine) : CallR X (.builtin "min") (rMinP X.K) := by
  intro pins s σ H vs us Q I r h
  obtain ⟨a, xs, ps, rfl, hs, hd, hne, q⟩ := h
  obtain ⟨its, rv, hl, _⟩ := I.list hs
  rw [Vals.ref1 r]
  obtain ⟨as, hr⟩ := Dp.readsAll I _ xs its hd rv
  cases ps with
  | nil => exact absurd rfl hne
  | cons p rest =>
    obtain ⟨m, m1, m2, m3⟩ := minP_fold rest p
    have hdep := depth_pr (p :: rest)
    rw [List.map_cons] at hr hdep
    refine min_at (x := prD p) (xs := rest.map prD) (I.ok.hd hc) hl.isList (by simpa using hr) ⟨fun y hy z hz => ?_, fun y hy e => ?_⟩ (by omega) fun i v h' tk hv he hk => ?_
    · rw [← List.map_cons] at hy hz
      obtain ⟨y', _, rfl⟩ := List.mem_map.mp hy
      obtain ⟨z', _, rfl⟩ := List.mem_map.mp hz
      rfl
    · rw [← List.map_cons] at hy
      obtain ⟨y', _, rfl⟩ := List.mem_map.mp hy
      cases e
    · have hv : its[i]? = some v := by simpa using hv
      obtain ⟨w, h1, h2⟩ := vals_at rv hv
      refine ⟨w, H, I.kept hk, h2, q i w m h1 ?_ m2⟩
      rw [m3, ← List.map_cons, List.getD_eq_getElem?_getD, List.getElem?_map] at he
      cases e3 : (p :: rest)[i]? with
      | none => rw [e3] at he; cases he
      | some m' =>
        rw [e3] at he
        have he : prD m' = prD m := he
        unfold prD at he
        simp only [PyData.tuple.injEq, List.cons.injEq, PyData.int.injEq, and_true] at he
        rw [show m' = m from Prod.ext he.1 he.2]
/-- min(xs) of pairs -/
def cMinP : List D → Gp → DK → Prop := fun xs G Q => ∃ (x : D) (ps : List (Int × Int)), xs = [x] ∧ lstOf G x = some (ps.map fun p => D.tup [.int p.1, .int p.2]) ∧ ps ≠ [] ∧ ∀ m, m ∈ ps → (∀ q ∈ ps, ¬ ltP q m) → Q (.tup [.int m.1, .int m.2]) G
theorem dp_pairs {F : Fz} {H : Hp} : ∀ {ps : List (Int × Int)} {vs : List V}, IsL F H (ps.map fun p => D.tup [.int p.1, .int p.2]) vs → DpAll K H vs (ps.map prD)
  | [], vs, h => by rw [isL_nil.mp h]; exact .nil
  | p :: ps, vs, h => by
    obtain ⟨v, r, rfl, h1, h2⟩ := isL_cons.mp (show IsL F H (D.tup [.int p.1, .int p.2] :: ps.map fun p => D.tup [.int p.1, .int p.2]) vs from h)
    have hp : pl 2 (D.tup [.int p.1, .int p.2]) = true := rfl
    have := dp_of (K := K) hp h1
    rw [toP, toPs, toPs, toPs, toP, toP] at this
    exact .cons this (dp_pairs h2)
theorem sc_minP : SC (rMinP K) cMinP := by
  rintro F H G xs ds Q Q' hG il ⟨x, ps, rfl, hx, hne, q⟩ k
  obtain ⟨v, rfl, iv⟩ := isL_one il
  obtain ⟨a, vs, rfl, h1, h2⟩ := lstOf_ok hG iv hx
  refine ⟨a, vs, ps, rfl, .inl (.inl h1), dp_pairs h2, hne, fun i w m hw hm hq => ?_⟩
  obtain ⟨w2, h3, h4⟩ := h2.get (i := i) (d := D.tup [.int m.1, .int m.2]) (by rw [List.getElem?_map, hm]; rfl)
  rw [hw] at h3
  cases h3
  exact k.fin hG h4 (q m (List.mem_of_getElem? hm) hq)
end
end Dg
namespace Dg
open PySem PySem.Spec L2
/-- len(d) -/
def cLenD : List D → Gp → DK → Prop := fun xs G Q => ∃ p kvs, xs = [.ref p] ∧ G p = some (.sm (.dK kvs)) ∧ Q (.int (kvs.length : Int)) G
theorem sc_lenD : SC (fun xs H Q => ∃ a kvs, xs = [V.ref a] ∧ H a = some (.dK kvs) ∧ Q (.int kvs.length) H) cLenD := by
  rintro F H G xs ds Q Q' hG il ⟨p, kds, rfl, hp, q⟩ k
  obtain ⟨v, rfl, iv⟩ := isL_one il
  obtain ⟨z, hz, vs, rfl, hl⟩ := hG.get hp
  exact ⟨p, vs, by rw [is_ref.mp iv], hz, by rw [hl.length]; exact k.fin hG (is_int.mpr rfl) q⟩
section
variable {K : PySem.W.Frag} {s : DSt} {G : Gp} {Q : DK} {E : DEnds} {ta tb tv : DE} {tr : DA} {C : Addr} {f m : Str} {x d : D} {p : Addr} {dx : Addr} {fs : List (Str × D)} {ds : List D} {sp : DSp}
theorem w_fld (h : ta s G fun x G1 => ∃ p dx fs d, x = .ref p ∧ G1 p = some (.sm (.ins C dx fs)) ∧ fs.lookup f = some d ∧ Q d G1) : dFld C f ta s G Q := h
theorem w_fldE {P : D → Prop} (h1 : G p = some (.sm (.ins C dx fs))) (h2 : fs.lookup f = some d) (q : P d) : ∃ p' dx fs d', D.ref p = .ref p' ∧ G p' = some (.sm (.ins C dx fs)) ∧ fs.lookup f = some d' ∧ P d' := ⟨p, dx, fs, d, rfl, h1, h2, q⟩
theorem w_fldS (h : tv s G fun y G1 => ta s G1 fun x G2 => ∃ p dx fs, x = .ref p ∧ G2 p = some (.sm (.ins C dx fs)) ∧ fs.length < 1000 ∧ E.nx s (ud G2 p (.sm (.ins C dx (putFD f y fs))))) : dFldS C f ta tv E s G := h
theorem w_fldSE {P : Addr → Addr → List (Str × D) → Prop} (h1 : G p = some (.sm (.ins C dx fs))) (h2 : fs.length < 1000) (q : P p dx fs) : ∃ p' dx fs, D.ref p = .ref p' ∧ G p' = some (.sm (.ins C dx fs)) ∧ fs.length < 1000 ∧ P p' dx fs := ⟨p, dx, fs, rfl, h1, h2, q⟩
theorem w_meth (h : ta s G fun x G1 => ∃ p, x = .ref p ∧ insAt G1 p C m ∧ tr s G1 fun ds G2 => sp (x :: ds) G2 Q) : dMeth C m sp ta tr s G Q := h
theorem w_methE {A : Prop} (h1 : insAt G p C m) (q : A) : ∃ p', D.ref p = .ref p' ∧ insAt G p' C m ∧ A := ⟨p, rfl, h1, q⟩
theorem w_make (h : tr s G fun ds G1 => ∀ x dx, G1 x = none → sp (.ref x :: ds) (ud G1 x (.sm (.ins C dx []))) fun v G2 => v = .non ∧ Q (.ref x) G2) : dMake C sp tr s G Q := h
theorem w_maxL {ns : List Int} (h : lstOf G x = some (ns.map D.int)) (h2 : ns ≠ []) (q : ∀ m, m ∈ ns → (∀ y ∈ ns, y ≤ m) → Q (.int m) G) : cMaxL [x] G Q := ⟨x, ns, rfl, h, h2, q⟩
theorem w_lenD {kvs : List (Key × D)} (h : G p = some (.sm (.dK kvs))) (q : Q (.int (kvs.length : Int)) G) : cLenD [.ref p] G Q := ⟨p, kvs, rfl, h, q⟩
end
end Dg
namespace Dg
open PySem PySem.Spec L2
theorem w_lcK {s : DSt} {G : Gp} {Q : DK} {ta te : DE} {c : CT} {tt : DT} {vs : List Nat} (h : ta s G fun x G1 => ∃ p z ks us, x = .ref p ∧ G1 p = some (.sm (.lkK z (ks.zip us))) ∧ ks.length = us.length ∧ ∃ ns : List Int, ks = ns.map Sum.inl ∧ dLcC ns.length (fun i d => (ns.map D.int)[i]? = some d) (fun G => G p = some (.sm (.lkK z (ks.zip us)))) c tt te vs s G1 Q) : dLcK ta c tt te vs s G Q := h
end Dg
namespace Mg
abbrev Kn := List (Int × (Int × Int))
def kGet (kn : Kn) (h : Int) : Option (Int × Int) := (kn.find? fun p => decide (p.1 = h)).map (·.2)
def kPut (kn : Kn) (h : Int) (v : Int × Int) : Kn := if (kn.any fun p => decide (p.1 = h)) = true then kn.map (fun p => if p.1 = h then (p.1, v) else p) else kn ++ [(h, v)]
def kDrop (kn : Kn) (h : Int) : Kn := kn.filter fun p => decide (p.1 ≠ h)
def kKeys (kn : Kn) : List Int := kn.map (·.1)
def e1 (l : Lk) : Int × Int := (l.a, l.x)
def e2 (l : Lk) : Int × Int := (l.b, l.y)
def endsF (ls : List Lk) : List ((Int × Int) × (Int × Int)) := ls.flatMap fun l => [(e1 l, e2 l), (e2 l, e1 l)]
def eGet (ls : List Lk) (p : Int × Int) : Option (Int × Int) := ((endsF ls).find? fun q => decide (q.1 = p)).map (·.2)
/-- what there is of a net -/
structure NS where
  n : Int
  ls : List Lk
  age : Int
  room : Int
  spots : List (Int × Int)
  known : List Kn
  now : Int
def ltP (a b : Int × Int) : Prop := a.1 < b.1 ∨ (a.1 = b.1 ∧ a.2 < b.2)
instance (a b : Int × Int) : Decidable (ltP a b) := inferInstanceAs (Decidable (_ ∨ _))
/-- of several the least -/
def minF : List (Int × Int) → Int × Int → Int × Int
  | [], m => m
  | r :: rs, m => minF rs (if ltP r m then r else m)
/-- the host of the least time, of several the least one -/
def oldest (kn : Kn) : Int := match kn.map (fun p => ((p.2.2, p.1) : Int × Int)) with
  | [] => 0
  | r :: rs => (minF rs r).2
def learnK (room : Int) (kn : Kn) (h d t : Int) : Kn := if (kGet kn h).isNone = true ∧ (kn.length : Int) = room then kPut (kDrop kn (oldest kn)) h (d, t) else kPut kn h (d, t)
def knAt (st : NS) (b : Int) : Kn := st.known.getD b.toNat []
def doorF (st : NS) (b h t : Int) : Option Int := match kGet (knAt st b) h with
  | none => none
  | some (d, seen) => if t ≤ seen + st.age then some d else none
def learnF (st : NS) (b h d t : Int) : NS := { st with known := st.known.set b.toNat (learnK st.room (knAt st b) h d t) }
def outsF (st : NS) (b d : Int) (to : Option Int) (t : Int) : List Int := match to.bind (fun z => doorF st b z t) with
  | none => [0, 1, 2, 3].filter fun o => decide (o ≠ d)
  | some z => if z ≠ d then [z] else []
def hostsF (st : NS) (p : Int × Int) : List Int := ((List.range st.spots.length).filter fun i => decide (st.spots[i]? = some p)).map fun (i : Nat) => (i : Int)
/-- one door out: (waiting, got) -/
def outF (st : NS) (b : Int) (wg : List (Int × Int) × List Int) (o : Int) : List (Int × Int) × List Int := match eGet st.ls (b, o) with
  | some e => (wg.1 ++ [e], wg.2)
  | none => (wg.1, wg.2 ++ hostsF st (b, o))
/-- a letter under way: what there is, who waits, who got it, steps -/
structure Ltr where
  st : NS
  w : List (Int × Int)
  got : List Int
  steps : Int
def stepF (h : Int) (to : Option Int) (t : Int) (c : Ltr) : Ltr := match c.w with
  | [] => c
  | (b, d) :: w => let st := learnF c.st b h d t
    let wg := (outsF st b d to t).foldl (outF st b) (w, c.got)
    ⟨st, wg.1, wg.2, c.steps + 1⟩
def goF (h : Int) (to : Option Int) (t : Int) : Nat → Ltr → Ltr
  | 0, c => c
  | f + 1, c => if c.w = [] then c else goF h to t f (stepF h to t c)
def spotF (st : NS) (h : Int) : Int × Int := st.spots.getD h.toNat (0, 0)
def ltr0 (st : NS) (t h : Int) : Ltr := ⟨{ st with now := t }, [spotF st h], (hostsF st (spotF st h)).filter (fun o => decide (o ≠ h)), 0⟩
def sendF (st : NS) (t h : Int) (to : Option Int) : Ltr := goF h to t 60 (ltr0 st t h)
def moveF (st : NS) (t h : Int) (p : Int × Int) : NS := { st with now := t, spots := st.spots.set h.toNat p }
def freshF (n : Int) (ls : List Lk) (age room : Int) (spots : List (Int × Int)) : NS := ⟨n, ls, age, room, spots, List.replicate n.toNat [], 0⟩
/-- what is known, rising by hosts -/
def srtK (kn : Kn) : List Int := (kKeys kn).mergeSort fun a b => decide (a ≤ b)
def srt (kn : Kn) : Kn := (srtK kn).map fun h => (h, (kGet kn h).getD (0, 0))
theorem srtK_perm (kn : Kn) : (srtK kn).Perm (kKeys kn) := List.mergeSort_perm _ _
theorem srtK_sorted (kn : Kn) : (srtK kn).Pairwise (· ≤ ·) := by
  have := List.pairwise_mergeSort (le := fun (a b : Int) => decide (a ≤ b)) (fun a b c h1 h2 => by simp at h1 h2 ⊢; omega) (fun a b => by simp; omega) (kKeys kn)
  exact this.imp fun h => by simpa using h
/-- two rising lists of the same numbers are one -/
theorem rising_eq : ∀ {xs ys : List Int}, xs.Perm ys → xs.Pairwise (· ≤ ·) → ys.Pairwise (· ≤ ·) → xs = ys
  | [], ys, h, _, _ => by rw [List.nil_perm.mp h]
  | x :: xs, [], h, _, _ => by have := h.length_eq; simp at this
  | x :: xs, y :: ys, h, h1, h2 => by
    rw [List.pairwise_cons] at h1 h2
    have hx : x ∈ y :: ys := h.subset (List.mem_cons_self ..)
    have hy : y ∈ x :: xs := h.symm.subset (List.mem_cons_self ..)
    have e : x = y := by
      rcases List.mem_cons.mp hx with z | z
      · exact z
      · rcases List.mem_cons.mp hy with w | w
        · exact w.symm
        · have a := h1.1 y w
          have b := h2.1 x z
          omega
    subst e
    rw [rising_eq (List.Perm.cons_inv h) h1.2 h2.2]
theorem kGet_cons {p : Int × (Int × Int)} {kn : Kn} {g : Int} : kGet (p :: kn) g = if p.1 = g then some p.2 else kGet kn g := by
  unfold kGet
  rw [List.find?_cons]
  by_cases c : p.1 = g
  · rw [decide_eq_true c, if_pos c]
    rfl
  · rw [decide_eq_false c, if_neg c]
theorem kGet_map {h : Int} {v : Int × Int} (g : Int) : ∀ kn : Kn, kGet (kn.map fun p => if p.1 = h then (p.1, v) else p) g = if g = h then (if (kn.any fun p => decide (p.1 = h)) = true then some v else none) else kGet kn g
  | [] => by simp [kGet]
  | p :: kn => by
    rw [List.map_cons, kGet_cons, kGet_map g kn, kGet_cons, List.any_cons]
    by_cases c : p.1 = h <;> by_cases d : g = h <;> by_cases e : p.1 = g <;> simp [c, d, e] <;> (try omega)
    all_goals grind
theorem kGet_app {h : Int} {v : Int × Int} (g : Int) : ∀ kn : Kn, kGet (kn ++ [(h, v)]) g = match kGet kn g with
    | some x => some x
    | none => if g = h then some v else none
  | [] => by
    rw [List.nil_append, kGet_cons]
    show (if h = g then some v else none) = if g = h then some v else none
    by_cases c : h = g
    · rw [if_pos c, if_pos c.symm]
    · rw [if_neg c, if_neg (fun z => c z.symm)]
  | p :: kn => by
    rw [List.cons_append, kGet_cons, kGet_cons, kGet_app g kn]
    by_cases c : p.1 = g
    · rw [if_pos c, if_pos c]
    · rw [if_neg c, if_neg c]
theorem any_key {kn : Kn} {h : Int} : (kn.any fun p => decide (p.1 = h)) = true ↔ kGet kn h ≠ none := by
  induction kn with
  | nil => simp [kGet]
  | cons p kn ih =>
    rw [List.any_cons, Bool.or_eq_true, ih, kGet_cons, decide_eq_true_eq]
    by_cases c : p.1 = h
    · simp [c]
    · rw [if_neg c]
      simp [c]
theorem kGet_put {kn : Kn} {h : Int} {v : Int × Int} (g : Int) : kGet (kPut kn h v) g = if g = h then some v else kGet kn g := by
  unfold kPut
  by_cases c : (kn.any fun p => decide (p.1 = h)) = true
  · rw [if_pos c, kGet_map, if_pos c]
  · rw [if_neg c, kGet_app]
    by_cases d : g = h
    · subst d
      have : kGet kn g = none := Classical.byContradiction fun z => c (any_key.mpr z)
      rw [this]
    · rw [if_neg d, if_neg d]
      cases kGet kn g <;> rfl
theorem kGet_none {kn : Kn} {h : Int} : kGet kn h = none ↔ h ∉ kKeys kn := by
  unfold kGet kKeys
  simp only [Option.map_eq_none_iff, List.find?_eq_none]
  grind
theorem kPut_keys {kn : Kn} {h : Int} {v : Int × Int} : kKeys (kPut kn h v) = if h ∈ kKeys kn then kKeys kn else kKeys kn ++ [h] := by
  have e : (kn.any fun p => decide (p.1 = h)) = true ↔ h ∈ kKeys kn := by
    unfold kKeys
    rw [List.any_eq_true, List.mem_map]
    grind
  unfold kPut
  by_cases c : h ∈ kKeys kn
  · rw [if_pos (e.mpr c), if_pos c]
    unfold kKeys
    rw [List.map_map]
    refine List.map_congr_left fun p _ => ?_
    simp only [Function.comp]
    split <;> rfl
  · rw [if_neg (fun z => c (e.mp z)), if_neg c]
    simp [kKeys]
theorem kDrop_keys {kn : Kn} {h : Int} : kKeys (kDrop kn h) = (kKeys kn).filter fun k => decide (k ≠ h) := by
  unfold kDrop kKeys
  rw [List.filter_map]
  rfl
theorem kGet_drop {h : Int} (g : Int) : ∀ kn : Kn, kGet (kDrop kn h) g = if g = h then none else kGet kn g
  | [] => by simp [kGet, kDrop]
  | p :: kn => by
    have ih := kGet_drop (h := h) g kn
    unfold kDrop at ih ⊢
    rw [List.filter_cons]
    by_cases c : p.1 = h
    · rw [if_neg (by simp [c]), ih, kGet_cons]
      by_cases d : g = h
      · rw [if_pos d, if_pos d]
      · rw [if_neg d, if_neg d, if_neg (fun z => d (z.symm.trans c))]
    · rw [if_pos (by simp [c]), kGet_cons, kGet_cons, ih]
      by_cases d : g = h
      · rw [if_pos d, if_pos d, if_neg (fun z => c (z.trans d))]
      · rw [if_neg d, if_neg d]
end Mg
namespace Dg
open PySem PySem.Spec L2
open Mg (Lk Kn NS)
def cN (K : PySem.W.Frag) : Addr := He.ga K "Net"
@[reducible] def dtD (p : Int × Int) : D := .tup [.int p.1, .int p.2]
def kvD (kn : Kn) : List (Key × D) := kn.map fun p => ((.inl p.1 : Key), dtD p.2)
def ekey (p : Int × Int) : List Key := [.inl p.1, .inl p.2]
def endsT (ls : List Lk) : List (List Key × D) := (Mg.endsF ls).map fun q => (ekey q.1, P2 q.2)
theorem valD_kv {kn : Kn} {h : Int} : valD (kvD kn) (.inl h) = (Mg.kGet kn h).map dtD := by
  induction kn with
  | nil => rfl
  | cons p kn ih =>
    have e : kvD (p :: kn) = ((.inl p.1 : Key), dtD p.2) :: kvD kn := rfl
    rw [e, Mg.kGet_cons]
    by_cases c : p.1 = h
    · rw [valD_pos (by rw [c]), if_pos c]
      rfl
    · rw [valD_neg (fun z => c (Sum.inl.inj z)), if_neg c]
      exact ih
theorem any_kv {kn : Kn} {h : Int} : ((kvD kn).any fun kv => decide (kv.1 = (.inl h : Key))) = (kn.any fun p => decide (p.1 = h)) := by
  unfold kvD
  rw [List.any_map]
  congr 1
  funext p
  simp only [Function.comp]
  by_cases c : p.1 = h
  · rw [decide_eq_true c, decide_eq_true (by rw [c])]
  · rw [decide_eq_false c, decide_eq_false (fun z => c (Sum.inl.inj z))]
theorem putD_kv {kn : Kn} {h : Int} {v : Int × Int} : putD (kvD kn) (.inl h) (dtD v) = kvD (Mg.kPut kn h v) := by
  unfold putD Mg.kPut
  rw [any_kv]
  split
  · unfold kvD
    rw [List.map_map, List.map_map]
    refine List.map_congr_left fun p _ => ?_
    simp only [Function.comp]
    by_cases c : p.1 = h
    · rw [if_pos (by rw [c]), if_pos c]
    · rw [if_neg (fun z => c (Sum.inl.inj z)), if_neg c]
  · simp [kvD]
theorem dropD_kv {kn : Kn} {h : Int} : dropD (kvD kn) (.inl h) = kvD (Mg.kDrop kn h) := by
  unfold dropD Mg.kDrop kvD
  rw [List.filter_map]
  congr 1
  refine List.filter_congr fun p _ => ?_
  simp only [Function.comp]
  by_cases c : p.1 = h
  · simp [c]
  · simp [c]
theorem ekey_inj {p q : Int × Int} (h : ekey p = ekey q) : p = q := by
  unfold ekey at h
  simp only [List.cons.injEq, Sum.inl.injEq, and_true] at h
  exact Prod.ext h.1 h.2
theorem valD_ends {ls : List Lk} {p : Int × Int} : valD (endsT ls) (ekey p) = (Mg.eGet ls p).map P2 := by
  unfold endsT Mg.eGet
  induction Mg.endsF ls with
  | nil => rfl
  | cons q es ih =>
    rw [List.map_cons, List.find?_cons]
    by_cases c : q.1 = p
    · rw [valD_pos (by dsimp only; rw [c]), decide_eq_true c]
      rfl
    · rw [valD_neg (fun z => c (ekey_inj z)), decide_eq_false c]
      exact ih
theorem keyT_lit {a b : Int} : keyT (.tup [.int a, .int b]) = some (ekey (a, b)) := rfl
theorem fm_if {α β : Type} (p : α → Prop) [DecidablePred p] (f : α → β) : ∀ xs : List α, xs.filterMap (fun x => if p x then some (f x) else none) = (xs.filter fun x => decide (p x)).map f
  | [] => rfl
  | x :: xs => by
    rw [List.filterMap_cons, List.filter_cons, fm_if p f xs]
    by_cases c : p x
    · rw [if_pos c, if_pos (decide_eq_true c)]
      rfl
    · rw [if_neg c, if_neg (by simpa using c)]
structure Nt where
  a : Addr
  dx : Addr
  e : Addr
  s : Addr
  k : Addr
  ds : List Addr
def Nt.ads (t : Nt) : List Addr := t.a :: t.e :: t.s :: t.k :: t.ds
def insF (t : Nt) (st : NS) : List (Str × D) := [("web", webD st.n st.ls), ("age", .int st.age), ("room", .int st.room), ("ends", .ref t.e), ("spots", .ref t.s), ("known", .ref t.k), ("now", .int st.now)]
theorem insF_lt {t : Nt} {st : NS} : (insF t st).length < 1000 := by show 7 < 1000; decide
def partsN (K : PySem.W.Frag) (t : Nt) (st : NS) : List (Addr × SO) := (t.a, .ins (cN K) t.dx (insF t st)) :: (t.e, .dT (endsT st.ls)) :: (t.s, .lst (st.spots.map P2)) :: (t.k, .lst (t.ds.map D.ref)) :: t.ds.zip (st.known.map fun kn => SO.dK (kvD kn))
/-- the net stands open -/
structure NetO (K : PySem.W.Frag) (G : Gp) (t : Nt) (st : NS) : Prop where
  len : t.ds.length = st.known.length
  nd : t.ads.Nodup
  at_ : ∀ b o, (b, o) ∈ partsN K t st → G b = some (.sm o)
def layNet (K : PySem.W.Frag) (st : NS) : Addr → List (Addr × SO) → Prop := fun a ps => ∃ t : Nt, t.a = a ∧ t.ds.length = st.known.length ∧ t.ads.Nodup ∧ ps = partsN K t st
abbrev gNet (K : PySem.W.Frag) (st : NS) : GO := .cmp (layNet K st)
section
variable {K : PySem.W.Frag} {G G' : Gp} {t : Nt} {st : NS}
theorem parts_keys (h : t.ds.length = st.known.length) : (partsN K t st).map (·.1) = t.ads := by
  unfold partsN Nt.ads
  simp only [List.map_cons]
  rw [List.map_fst_zip (by rw [List.length_map]; omega)]
theorem mem_ads {b : Addr} {o : SO} (h : t.ds.length = st.known.length) (hm : (b, o) ∈ partsN K t st) : b ∈ t.ads := by
  rw [← parts_keys (K := K) h]
  exact List.mem_map_of_mem (f := (·.1)) hm
theorem ads_mem {b : Addr} (h : t.ds.length = st.known.length) (hm : b ∈ t.ads) : ∃ o, (b, o) ∈ partsN K t st := by
  rw [← parts_keys (K := K) h] at hm
  obtain ⟨⟨b', o⟩, h1, rfl⟩ := List.mem_map.mp hm
  exact ⟨o, h1⟩
theorem NetO.ga (h : NetO K G t st) : G t.a = some (.sm (.ins (cN K) t.dx (insF t st))) := h.at_ _ _ (by simp [partsN])
theorem NetO.ge (h : NetO K G t st) : G t.e = some (.sm (.dT (endsT st.ls))) := h.at_ _ _ (by simp [partsN])
theorem NetO.gs (h : NetO K G t st) : G t.s = some (.sm (.lst (st.spots.map P2))) := h.at_ _ _ (by simp [partsN])
theorem NetO.gk (h : NetO K G t st) : G t.k = some (.sm (.lst (t.ds.map D.ref))) := h.at_ _ _ (by simp [partsN])
theorem NetO.gd (h : NetO K G t st) {i : Nat} {d : Addr} {kn : Kn} (h1 : t.ds[i]? = some d) (h2 : st.known[i]? = some kn) : G d = some (.sm (.dK (kvD kn))) := by
  refine h.at_ _ _ ?_
  unfold partsN
  have : (d, SO.dK (kvD kn)) ∈ t.ds.zip (st.known.map fun kn => SO.dK (kvD kn)) := by
    rw [List.mem_iff_getElem?]
    exact ⟨i, by rw [List.getElem?_zip_eq_some]; exact ⟨h1, by rw [List.getElem?_map, h2]; rfl⟩⟩
  simp [this]
theorem NetO.has (h : NetO K G t st) {b : Addr} (hb : b ∈ t.ads) : ∃ x, G b = some x := by
  obtain ⟨o, ho⟩ := ads_mem (K := K) h.len hb
  exact ⟨_, h.at_ _ _ ho⟩
theorem NetO.fresh (h : NetO K G t st) {p : Addr} (hp : G p = none) : p ∉ t.ads := fun z => by
  obtain ⟨x, hx⟩ := h.has z
  rw [hp] at hx
  cases hx
theorem NetO.agree (h : NetO K G t st) (k : ∀ b ∈ t.ads, G' b = G b) : NetO K G' t st := ⟨h.len, h.nd, fun b o hm => by rw [k b (mem_ads h.len hm)]; exact h.at_ b o hm⟩
theorem NetO.frame (h : NetO K G t st) {p : Addr} {x : GO} (hp : p ∉ t.ads) : NetO K (ud G p x) t st := h.agree fun b hb => ud_ne (fun z => hp (z ▸ hb))
theorem NetO.new (h : NetO K G t st) {p : Addr} {x : GO} (hp : G p = none) : NetO K (ud G p x) t st := h.frame (h.fresh hp)
/-- one part is changed -/
theorem NetO.setI (h : NetO K G t st) (st' : NS) (e1 : st'.ls = st.ls) (e2 : st'.spots = st.spots) (e3 : st'.known = st.known) : NetO K (ud G t.a (.sm (.ins (cN K) t.dx (insF t st')))) t st' := by
  obtain ⟨h1, h2, h3⟩ := h
  refine ⟨by rw [e3]; exact h1, h2, fun b o hm => ?_⟩
  unfold partsN at hm
  rw [e1, e2, e3] at hm
  rcases List.mem_cons.mp hm with z | z
  · cases z
    exact ud_same
  · have hb : b ≠ t.a := fun w => by
      unfold Nt.ads at h2
      rw [List.nodup_cons] at h2
      have : b ∈ t.e :: t.s :: t.k :: t.ds := by
        have hk := List.mem_map_of_mem (f := (·.1)) z
        simp only [List.map_cons] at hk
        rwa [List.map_fst_zip (by rw [List.length_map]; omega)] at hk
      exact h2.1 (w ▸ this)
    rw [ud_ne hb]
    refine h3 b o ?_
    unfold partsN
    exact List.mem_cons_of_mem _ z
theorem NetO.setS (h : NetO K G t st) (sp : List (Int × Int)) : NetO K (ud G t.s (.sm (.lst (sp.map P2)))) t { st with spots := sp } := by
  obtain ⟨h1, h2, h3⟩ := h
  have hns : t.a ≠ t.s ∧ t.e ≠ t.s ∧ t.k ≠ t.s ∧ t.s ∉ t.ds := by
    unfold Nt.ads at h2
    simp only [List.nodup_cons, List.mem_cons, not_or] at h2
    exact ⟨h2.1.2.1, h2.2.1.1, fun z => h2.2.2.1.1 z.symm, h2.2.2.1.2⟩
  refine ⟨h1, h2, fun b o hm => ?_⟩
  unfold partsN at hm
  have old : ∀ b o, (b, o) ∈ partsN K t st → b ≠ t.s → ud G t.s (.sm (.lst (sp.map P2))) b = some (.sm o) := fun b o hm hb => by rw [ud_ne hb]; exact h3 b o hm
  simp only [List.mem_cons] at hm
  rcases hm with z | z | z | z | z
  · cases z; exact old _ _ (by simp [partsN, insF]) hns.1
  · cases z; exact old _ _ (by simp [partsN]) hns.2.1
  · cases z; exact ud_same
  · cases z; exact old _ _ (by simp [partsN]) hns.2.2.1
  · exact old _ _ (by simp [partsN, z]) (fun w => hns.2.2.2 (w ▸ (List.of_mem_zip z).1))
theorem NetO.setK (h : NetO K G t st) {i : Nat} {d : Addr} (hd : t.ds[i]? = some d) (kn : Kn) : NetO K (ud G d (.sm (.dK (kvD kn)))) t { st with known := st.known.set i kn } := by
  obtain ⟨h1, h2, h3⟩ := h
  have hmem : d ∈ t.ds := List.mem_of_getElem? hd
  have hnd : t.ds.Nodup ∧ t.a ≠ d ∧ t.e ≠ d ∧ t.s ≠ d ∧ t.k ≠ d := by
    unfold Nt.ads at h2
    simp only [List.nodup_cons, List.mem_cons, not_or] at h2
    exact ⟨h2.2.2.2.2, fun z => h2.1.2.2.2 (z ▸ hmem), fun z => h2.2.1.2.2 (z ▸ hmem), fun z => h2.2.2.1.2 (z ▸ hmem), fun z => h2.2.2.2.1 (z ▸ hmem)⟩
  have hi : i < t.ds.length := by
    rcases Nat.lt_or_ge i t.ds.length with z | z
    · exact z
    · rw [List.getElem?_eq_none z] at hd; cases hd
  refine ⟨by simp [h1], h2, fun b o hm => ?_⟩
  unfold partsN at hm
  have old : ∀ b o, (b, o) ∈ partsN K t st → b ≠ d → ud G d (.sm (.dK (kvD kn))) b = some (.sm o) := fun b o hm hb => by rw [ud_ne hb]; exact h3 b o hm
  simp only [List.mem_cons] at hm
  rcases hm with z | z | z | z | z
  · cases z; exact old _ _ (by simp [partsN, insF]) hnd.2.1
  · cases z; exact old _ _ (by simp [partsN]) hnd.2.2.1
  · cases z; exact old _ _ (by simp [partsN]) hnd.2.2.2.1
  · cases z; exact old _ _ (by simp [partsN]) hnd.2.2.2.2
  · obtain ⟨j, hj⟩ := List.mem_iff_getElem?.mp z
    rw [List.getElem?_zip_eq_some] at hj
    obtain ⟨j1, j2⟩ := hj
    by_cases hij : j = i
    · subst hij
      rw [hd] at j1
      cases j1
      rw [List.getElem?_map, List.getElem?_set_self (by omega)] at j2
      cases j2
      exact ud_same
    · have hb : b ≠ d := fun w => by
        subst w
        have hj' : j < t.ds.length := by
          rcases Nat.lt_or_ge j t.ds.length with q | q
          · exact q
          · rw [List.getElem?_eq_none q] at j1; cases j1
        rw [List.getElem?_eq_getElem hj'] at j1
        rw [List.getElem?_eq_getElem hi] at hd
        have : t.ds[j] = t.ds[i] := by rw [Option.some.inj j1, Option.some.inj hd]
        exact hij ((List.getElem_inj hnd.1).mp this)
      refine old b o ?_ hb
      rw [List.getElem?_map, List.getElem?_set_ne (fun w => hij w.symm)] at j2
      have : (b, o) ∈ t.ds.zip (st.known.map fun kn => SO.dK (kvD kn)) := List.mem_iff_getElem?.mpr ⟨j, by rw [List.getElem?_zip_eq_some]; exact ⟨j1, by rw [List.getElem?_map]; exact j2⟩⟩
      simp [partsN, this]
theorem net_open {F : Fz} {H : Hp} (g : Hg F H G) {a : Addr} (h : G a = some (gNet K st)) : ∃ (t : Nt) (G1 : Gp), t.a = a ∧ NetO K G1 t st ∧ Hg F H G1 ∧ (∀ b, b ∉ t.ads → G1 b = G b) ∧ ∀ b ∈ t.ads, b ≠ a → G b = none := by
  obtain ⟨ps, ⟨t, ha, h1, h2, rfl⟩, ho, hfree, huniq, hop⟩ := g.openC h
  subst ha
  refine ⟨t, fun b => match (partsN K t st).find? (fun q => q.1 == b) with
    | some q => some (.sm q.2)
    | none => G b, rfl, ⟨h1, h2, fun b o hm => ?_⟩, hop _ fun b x e => ?_, fun b hb => ?_, fun b hb hne => ?_⟩
  · cases e : (partsN K t st).find? (fun q => q.1 == b) with
    | none => exact absurd (List.find?_eq_none.mp e _ hm) (by simp)
    | some q =>
      have m1 := List.mem_of_find?_eq_some e
      have m2 : q.1 = b := by simpa using List.find?_some e
      obtain ⟨q1, q2⟩ := q
      cases m2
      rw [huniq _ _ _ m1 hm]
  · cases e2 : (partsN K t st).find? (fun q => q.1 == b) with
    | none =>
      rw [e2] at e
      refine .inl ⟨e, fun z => ?_⟩
      have := List.find?_eq_none.mp e2 (t.a, .ins (cN K) t.dx (insF t st)) (by simp [partsN])
      simp [z] at this
    | some q =>
      rw [e2] at e
      have m1 := List.mem_of_find?_eq_some e2
      have m2 : q.1 = b := by simpa using List.find?_some e2
      obtain ⟨q1, q2⟩ := q
      cases m2
      cases e
      exact .inr ⟨q2, m1, rfl⟩
  · cases e : (partsN K t st).find? (fun q => q.1 == b) with
    | none => dsimp only; rw [e]
    | some q =>
      have m1 := List.mem_of_find?_eq_some e
      have m2 : q.1 = b := by simpa using List.find?_some e
      exact absurd (mem_ads h1 (b := b) (o := q.2) (by rw [← m2]; exact m1)) hb
  · obtain ⟨o, hm⟩ := ads_mem (K := K) h1 hb
    exact hfree b o hm hne
theorem net_shut {F : Fz} {H : Hp} {G2 : Gp} {st' : NS} (g : Hg F H G2) (h : NetO K G2 t st') {a : Addr} (ha : t.a = a) (hfree : ∀ b ∈ t.ads, b ≠ a → G b = none) (hk : ∀ b x, b ∉ t.ads → G b = some x → G2 b = some x) : Hg F H (ud G a (gNet K st')) := by
  subst ha
  refine Hg.close (a := t.a) (L := layNet K st') (ps := partsN K t st') g ⟨t, rfl, h.len, h.nd, rfl⟩ ⟨_, List.mem_cons_self ..⟩ h.at_ fun b x e => ?_
  by_cases hb : b = t.a
  · rw [hb, ud_same] at e
    cases e
    exact .inl ⟨hb, rfl⟩
  · rw [ud_ne hb] at e
    have hn : b ∉ t.ads := fun z => by
      rw [hfree b z hb] at e
      cases e
    exact .inr ⟨hk b x hn e, fun o hm => hn (mem_ads h.len hm)⟩
end
/-- the net stands, open or shut -/
def NetV (K : PySem.W.Frag) (G : Gp) (a : Addr) (st : NS) : Prop := G a = some (gNet K st) ∨ ∃ t, t.a = a ∧ NetO K G t st
/-- another view at the entry and at the return -/
theorem Rd.view {n : Nat} {b : DS} {sp sp' : DSp} (h : Rd n b sp) (k : ∀ ds G Q, sp' ds G Q → ∀ F H, Hg F H G → ∃ G1, Hg F H G1 ∧ sp ds G1 (vR Q)) : Rd n b sp' := by
  intro ds G Q hs F H σ is hg
  obtain ⟨G1, hg1, h1⟩ := k ds G Q hs F H hg
  obtain ⟨F2, s2, G2, e2, i2, g2, h2⟩ := h ds G1 (vR Q) h1 F H σ is hg1
  refine ⟨F2, s2, G2, e2, i2, g2, ?_⟩
  have e : vRt (vR Q) = vRt Q := by
    funext d G'
    refine propext ⟨fun z F H v i g => ?_, fun z => ?_⟩
    · obtain ⟨F1, d1, G1, e1, i1, g1, q1⟩ := z F H v i g
      obtain ⟨F3, d3, G3, e3, i3, g3, q3⟩ := q1 F1 H v i1 g1
      exact ⟨F3, d3, G3, e1.trans e3, i3, g3, q3⟩
    · exact vR0 z
  rw [e] at h2
  exact h2
theorem netV_view {K : PySem.W.Frag} {G : Gp} {a : Addr} {st : NS} (h : NetV K G a st) {F : Fz} {H : Hp} (g : Hg F H G) : ∃ t G1, t.a = a ∧ NetO K G1 t st ∧ Hg F H G1 ∧ (∀ p, G1 p = none → G p = none) ∧ (∀ b, b ∉ t.ads → G1 b = G b) ∧
    ∀ (Q : DK) d (G2 : Gp) (E : Gp), (∀ b, b ∈ t.ads → G2 b = G1 b) → (∀ b x, b ∉ t.ads → E b = some x → G2 b = some x) → (∀ b ∈ t.ads, E b = G b) → Q d E → vR Q d G2 := by
  rcases h with h | ⟨t, ha, ho⟩
  · obtain ⟨t, G1, ha, ho, hg1, h1, h2⟩ := net_open g h
    refine ⟨t, G1, ha, ho, hg1, fun p hp => ?_, h1, fun Q d G2 E e1 e2 e3 q => ?_⟩
    · rw [← h1 p (ho.fresh hp)]
      exact hp
    · refine vR_to (fun F' H' g' => ?_) q
      have := net_shut (G := E) g' (ho.agree e1) ha (fun b hb hne => by rw [e3 b hb]; exact h2 b hb hne) e2
      rw [ud_self (by rw [e3 a (by rw [← ha]; exact List.mem_cons_self ..)]; exact h)] at this
      exact this
  · refine ⟨t, G, ha, ho, g, fun _ h => h, fun _ _ => rfl, fun Q d G2 E e1 e2 e3 q => vR_sub (fun b x hx => ?_) q⟩
    by_cases hb : b ∈ t.ads
    · rw [e1 b hb, ← e3 b hb]
      exact hx
    · exact e2 b x hb hx
theorem netV_ins {K : PySem.W.Frag} {G : Gp} {a : Addr} {st : NS} (h : NetV K G a st) {m : Str} (hm : ∀ t, (insF t st).lookup m = none) : insAt G a (cN K) m := by
  rcases h with h | ⟨t, rfl, ho⟩
  · refine .inr ⟨_, h, ?_⟩
    rintro ps ⟨t, rfl, _, _, rfl⟩
    exact ⟨t.dx, insF t st, by simp [partsN], hm t⟩
  · exact .inl ⟨_, _, ho.ga, hm t⟩
end Dg
namespace Dg
open PySem PySem.Spec L2
open Mg (Lk Kn NS)
/-- a place at which hosts may stand -/
structure PlOk (n : Int) (ls : List Lk) (p : Int × Int) : Prop where
  b0 : 0 ≤ p.1
  bn : p.1 < n
  d0 : 0 ≤ p.2
  d4 : p.2 < 4
  free : Mg.eGet ls p = none
structure KnOk (hosts room now : Int) (kn : Kn) : Prop where
  nd : (Mg.kKeys kn).Nodup
  len : (kn.length : Int) ≤ room
  ok : ∀ p ∈ kn, 0 ≤ p.1 ∧ p.1 < hosts ∧ 0 ≤ p.2.1 ∧ p.2.1 < 4 ∧ 0 ≤ p.2.2 ∧ p.2.2 ≤ now
structure NOk (st : NS) : Prop where
  web : WebOk st.n st.ls
  a0 : 0 ≤ st.age
  a20 : st.age ≤ 20
  r1 : 1 ≤ st.room
  r8 : st.room ≤ 8
  h1 : 1 ≤ st.spots.length
  h8 : st.spots.length ≤ 8
  pl : ∀ p ∈ st.spots, PlOk st.n st.ls p
  kl : (st.known.length : Int) = st.n
  kn : ∀ kn ∈ st.known, KnOk st.spots.length st.room st.now kn
  t0 : 0 ≤ st.now
  t1000 : st.now ≤ 1000
/-- .. at some time -/
def NOkT (st : NS) : Prop := ∃ n0, NOk { st with now := n0 }
theorem NOk.T {st : NS} (h : NOk st) : NOkT st := ⟨st.now, h⟩
def optD : Option Int → D
  | none => .non
  | some i => .int i
def LtOk (st : NS) (t h : Int) (to : Option Int) : Prop := st.now ≤ t ∧ t ≤ 1000 ∧ 0 ≤ h ∧ h < st.spots.length ∧ ∀ z, to = some z → 0 ≤ z ∧ z < st.spots.length ∧ z ≠ h
def sp_N_need_place (K : PySem.W.Frag) : DSp := fun ds G Q => ∃ a h p dx fs n ls e, ds = [.ref a, .int h, P2 p] ∧ G a = some (.sm (.ins (cN K) dx fs)) ∧ fs.lookup ("web" : Str) = some (webD n ls) ∧ fs.lookup ("ends" : Str) = some (.ref e) ∧ G e = some (.sm (.dT (endsT ls))) ∧ PlOk n ls p ∧ Q .non G
def sp_N_need_time (K : PySem.W.Frag) : DSp := fun ds G Q => ∃ a st t, ds = [.ref a, .int t] ∧ NetV K G a st ∧ st.now ≤ t ∧ t ≤ 1000 ∧ Q .non G
def sp_N_need_host (K : PySem.W.Frag) : DSp := fun ds G Q => ∃ a st h, ds = [.ref a, .int h] ∧ NetV K G a st ∧ 0 ≤ h ∧ h < st.spots.length ∧ Q .non G
def sp_N_need_letter (K : PySem.W.Frag) : DSp := fun ds G Q => ∃ a st t h to, ds = [.ref a, .int t, .int h, optD to] ∧ NetV K G a st ∧ LtOk st t h to ∧ Q .non G
def sp_N_hosts_at (K : PySem.W.Frag) : DSp := fun ds G Q => ∃ a st p, ds = [.ref a, P2 p] ∧ NetV K G a st ∧ st.spots.length ≤ 8 ∧ Q (.lst ((Mg.hostsF st p).map D.int)) G
def sp_N_door_of (K : PySem.W.Frag) : DSp := fun ds G Q => ∃ a st b h t, ds = [.ref a, .int b, .int h, .int t] ∧ NetV K G a st ∧ 0 ≤ b ∧ b < st.known.length ∧ Q (optD (Mg.doorF st b h t)) G
def sp_N_learn (K : PySem.W.Frag) : DSp := fun ds G Q => ∃ (t : Nt) (st : NS) (b h d tm : Int), ds = [.ref t.a, .int b, .int h, .int d, .int tm] ∧ NetO K G t st ∧ NOkT st ∧ 0 ≤ b ∧ b < st.n ∧ ∀ G', NetO K G' t (Mg.learnF st b h d tm) → (∀ p, p ∉ t.ads → G' p = G p) → Q .non G'
def sp_N_doors_out (K : PySem.W.Frag) : DSp := fun ds G Q => ∃ a st b d to t, ds = [.ref a, .int b, .int d, optD to, .int t] ∧ NetV K G a st ∧ 0 ≤ b ∧ b < st.known.length ∧ Q (.lst ((Mg.outsF st b d to t).map D.int)) G
def sp_N_send (K : PySem.W.Frag) : DSp := fun ds G Q => ∃ a st t h to, ds = [.ref a, .int t, .int h, optD to] ∧ G a = some (gNet K st) ∧ NOk st ∧ LtOk st t h to ∧ ∀ p, G p = none → ∀ c, c = Mg.sendF st t h to → Q (.tup [.bl (decide (c.w = [])), .ref p, .int c.steps]) (ud (ud G a (gNet K c.st)) p (.sm (.lst (c.got.map D.int))))
def sp_N_move (K : PySem.W.Frag) : DSp := fun ds G Q => ∃ a st t h p, ds = [.ref a, .int t, .int h, P2 p] ∧ G a = some (gNet K st) ∧ NOk st ∧ st.now ≤ t ∧ t ≤ 1000 ∧ 0 ≤ h ∧ h < st.spots.length ∧ PlOk st.n st.ls p ∧ Q .non (ud G a (gNet K (Mg.moveF st t h p)))
def sp_N_places (K : PySem.W.Frag) : DSp := fun ds G Q => ∃ a st, ds = [.ref a] ∧ NetV K G a st ∧ ∀ p, G p = none → Q (.ref p) (ud G p (.sm (.lst (st.spots.map P2))))
def sp_N_knows (K : PySem.W.Frag) : DSp := fun ds G Q => ∃ a st b, ds = [.ref a, .int b] ∧ NetV K G a st ∧ NOk st ∧ 0 ≤ b ∧ b < st.n ∧ ∀ p, G p = none → Q (.ref p) (ud G p (.sm (.lst ((Mg.srt (Mg.knAt st b)).map fun q => TN [q.1, q.2.1, q.2.2]))))
def sp_N_init (K : PySem.W.Frag) : DSp := fun ds G Q => ∃ (a dx : Addr) (n : Int) (ls : List Lk) (age room : Int) (x : D) (pls : List (Int × Int)), ds = [.ref a, webD n ls, .int age, .int room, x] ∧ G a = some (.sm (.ins (cN K) dx [])) ∧ WebOk n ls ∧ 0 ≤ age ∧ age ≤ 20 ∧ 1 ≤ room ∧ room ≤ 8 ∧ lstOf G x = some (pls.map P2) ∧ 1 ≤ pls.length ∧ pls.length ≤ 8 ∧ (∀ p ∈ pls, PlOk n ls p) ∧
  Q .non (ud G a (gNet K (Mg.freshF n ls age room pls)))
theorem len_N_need_place {K : PySem.W.Frag} : ∀ ds G Q, sp_N_need_place K ds G Q → ds.length = 3 := by rintro _ _ _ ⟨_, _, _, _, _, _, _, _, rfl, _⟩; rfl
theorem len_N_need_time {K : PySem.W.Frag} : ∀ ds G Q, sp_N_need_time K ds G Q → ds.length = 2 := by rintro _ _ _ ⟨_, _, _, rfl, _⟩; rfl
theorem len_N_need_host {K : PySem.W.Frag} : ∀ ds G Q, sp_N_need_host K ds G Q → ds.length = 2 := by rintro _ _ _ ⟨_, _, _, rfl, _⟩; rfl
theorem len_N_need_letter {K : PySem.W.Frag} : ∀ ds G Q, sp_N_need_letter K ds G Q → ds.length = 4 := by rintro _ _ _ ⟨_, _, _, _, _, rfl, _⟩; rfl
theorem len_N_hosts_at {K : PySem.W.Frag} : ∀ ds G Q, sp_N_hosts_at K ds G Q → ds.length = 2 := by rintro _ _ _ ⟨_, _, _, rfl, _⟩; rfl
theorem len_N_door_of {K : PySem.W.Frag} : ∀ ds G Q, sp_N_door_of K ds G Q → ds.length = 4 := by rintro _ _ _ ⟨_, _, _, _, _, rfl, _⟩; rfl
theorem len_N_learn {K : PySem.W.Frag} : ∀ ds G Q, sp_N_learn K ds G Q → ds.length = 5 := by rintro _ _ _ ⟨_, _, _, _, _, _, rfl, _⟩; rfl
theorem len_N_doors_out {K : PySem.W.Frag} : ∀ ds G Q, sp_N_doors_out K ds G Q → ds.length = 5 := by rintro _ _ _ ⟨_, _, _, _, _, _, rfl, _⟩; rfl
theorem len_N_send {K : PySem.W.Frag} : ∀ ds G Q, sp_N_send K ds G Q → ds.length = 4 := by rintro _ _ _ ⟨_, _, _, _, _, rfl, _⟩; rfl
theorem len_N_move {K : PySem.W.Frag} : ∀ ds G Q, sp_N_move K ds G Q → ds.length = 4 := by rintro _ _ _ ⟨_, _, _, _, _, rfl, _⟩; rfl
theorem len_N_places {K : PySem.W.Frag} : ∀ ds G Q, sp_N_places K ds G Q → ds.length = 1 := by rintro _ _ _ ⟨_, _, rfl, _⟩; rfl
theorem len_N_knows {K : PySem.W.Frag} : ∀ ds G Q, sp_N_knows K ds G Q → ds.length = 2 := by rintro _ _ _ ⟨_, _, _, rfl, _⟩; rfl
theorem len_N_init {K : PySem.W.Frag} : ∀ ds G Q, sp_N_init K ds G Q → ds.length = 5 := by rintro _ _ _ ⟨_, _, _, _, _, _, _, _, rfl, _⟩; rfl
end Dg
namespace Dg
open PySem PySem.Spec L2
/-- Net.need_place: slots 0=self 1=host 2=place -/
def b_N_need_place (K : PySem.W.Frag) : DS :=
    (dIfS (dOr (dNot (dTest (dCall (sp_is_door K) (dCons (dOp eIxT (dFld (cN K) "web" (dVar 0)) (dC (.int 0))) (dCons (dOp eIxT (dVar 2) (dC (.int 0))) (dCons (dOp eIxT (dVar 2) (dC (.int 1))) dNil)))))) (dTest (dDIn false (dVar 2) (dFld (cN K) "ends" (dVar 0))))) dNo dNext)
/-- Net.need_time: slots 0=self 1=time -/
def b_N_need_time (K : PySem.W.Frag) : DS :=
    (dIfS (dNot (dTest (dChain eLe eLe (dFld (cN K) "now" (dVar 0)) (dVar 1) (dC (.int 1000))))) dNo dNext)
/-- Net.need_host: slots 0=self 1=host -/
def b_N_need_host (K : PySem.W.Frag) : DS :=
    (dIfS (dNot (dTest (dChain eLe eLt (dC (.int 0)) (dVar 1) (dCB cLen (dCons (dFld (cN K) "spots" (dVar 0)) dNil))))) dNo dNext)
/-- Net.need_letter: slots 0=self 1=time 2=host 3=to -/
def b_N_need_letter (K : PySem.W.Frag) : DS :=
    (dSeq (dDrop (dMeth (cN K) "need_time" (sp_N_need_time K) (dVar 0) (dCons (dVar 1) dNil)))
    (dSeq (dDrop (dMeth (cN K) "need_host" (sp_N_need_host K) (dVar 0) (dCons (dVar 2) dNil)))
    (dIfS (dTest (dNotN (dVar 3))) (dSeq (dDrop (dMeth (cN K) "need_host" (sp_N_need_host K) (dVar 0) (dCons (dVar 3) dNil)))
    (dIfS (dTest (dOp eEqD (dVar 3) (dVar 2))) dNo dNext)) dNext)))
/-- Net.hosts_at: slots 0=self 1=place 2=host -/
def b_N_hosts_at (K : PySem.W.Frag) : DS :=
    (dRet (dLcR1 (dCons (dCB cLen (dCons (dFld (cN K) "spots" (dVar 0)) dNil)) dNil) (.nm 2) (dTest (dOp eEqD (dOp eIxL (dFld (cN K) "spots" (dVar 0)) (dVar 2)) (dVar 1))) (dVar 2) [2]))
/-- Net.door_of: slots 0=self 1=box 2=host 3=time 4=door 5=seen -/
def b_N_door_of (K : PySem.W.Frag) : DS :=
    (dSeq (dIfS (dTest (dDIn true (dVar 2) (dOp eIxL (dFld (cN K) "known" (dVar 0)) (dVar 1)))) (dRet (dC .non)) dNext)
    (dSeq (dAsg (dDGet (dOp eIxL (dFld (cN K) "known" (dVar 0)) (dVar 1)) (dVar 2)) (hTup 2 (hCons (hName 4) (hCons (hName 5) hNil))))
    (dRet (dIf (dTest (dOp eLe (dVar 3) (dOp eAdd (dVar 5) (dFld (cN K) "age" (dVar 0))))) (dVar 4) (dC .non)))))
/-- Net.learn: slots 0=self 1=box 2=host 3=door 4=time 5=known 6=other -/
def b_N_learn (K : PySem.W.Frag) : DS :=
    (dSeq (dAsg (dOp eIxL (dFld (cN K) "known" (dVar 0)) (dVar 1)) (hName 5))
    (dSeq (dIfS (dAnd (dTest (dDIn true (dVar 2) (dVar 5))) (dTest (dOp eEq (dCB cLenD (dCons (dVar 5) dNil)) (dFld (cN K) "room" (dVar 0))))) (dDrop (dDPop1 (dVar 5) (dOp eIxT (dCB cMinP (dCons (dFz (dLockK (dLcK (dVar 5) (.nm 6) dYes (dTup (dCons (dOp eIxT (dDGet (dVar 5) (dVar 6)) (dC (.int 1))) (dCons (dVar 6) dNil))) [6]))) dNil)) (dC (.int 1))))) dNext)
    (dDPut (dVar 5) (dVar 2) (dTup (dCons (dVar 3) (dCons (dVar 4) dNil))))))
/-- Net.doors_out: slots 0=self 1=box 2=door 3=to 4=time 5=there 6=out -/
def b_N_doors_out (K : PySem.W.Frag) : DS :=
    (dSeq (dAsg (dIf (dTest (dIsN (dVar 3))) (dC .non) (dMeth (cN K) "door_of" (sp_N_door_of K) (dVar 0) (dCons (dVar 1) (dCons (dVar 3) (dCons (dVar 4) dNil))))) (hName 5))
    (dSeq (dIfS (dTest (dIsN (dVar 5))) (dRet (dLcR1 (dCons (dC (.int 4)) dNil) (.nm 6) (dTest (dOp eNe (dVar 6) (dVar 2))) (dVar 6) [6])) dNext)
    (dRet (dIf (dTest (dOp eNeD (dVar 5) (dVar 2))) (dFz (dLst (dCons (dVar 5) dNil))) (dFz (dLst dNil))))))
/-- Net.send: slots 0=self 1=time 2=host 3=to 4=got 5=other 6=waiting 7=steps 8=box 9=door 10=out -/
def b_N_send (K : PySem.W.Frag) : DS :=
    (dSeq (dDrop (dMeth (cN K) "need_letter" (sp_N_need_letter K) (dVar 0) (dCons (dVar 1) (dCons (dVar 2) (dCons (dVar 3) dNil)))))
    (dSeq (dFldS (cN K) "now" (dVar 0) (dVar 1))
    (dSeq (dAsg (dLcL (dMeth (cN K) "hosts_at" (sp_N_hosts_at K) (dVar 0) (dCons (dOp eIxL (dFld (cN K) "spots" (dVar 0)) (dVar 2)) dNil)) (.nm 5) (dTest (dOp eNe (dVar 5) (dVar 2))) (dVar 5) [5]) (hName 4))
    (dSeq (dAsg (dLst (dCons (dOp eIxL (dFld (cN K) "spots" (dVar 0)) (dVar 2)) dNil)) (hName 6))
    (dSeq (dAsg (dC (.int 0)) (hName 7))
    (dSeq (dWhile (dAnd (dTest (dOp eNeD (dVar 6) (dFz (dLst dNil)))) (dTest (dOp eLt (dVar 7) (dC (.int 60))))) (dSeq (dAsg (dBM "list" mPopAt (dVar 6) (dCons (dC (.int 0)) dNil)) (hTup 2 (hCons (hName 8) (hCons (hName 9) hNil))))
    (dSeq (dAsg (dOp eAdd (dVar 7) (dC (.int 1))) (hName 7))
    (dSeq (dDrop (dMeth (cN K) "learn" (sp_N_learn K) (dVar 0) (dCons (dVar 8) (dCons (dVar 2) (dCons (dVar 9) (dCons (dVar 1) dNil))))))
    (dForL (dMeth (cN K) "doors_out" (sp_N_doors_out K) (dVar 0) (dCons (dVar 8) (dCons (dVar 9) (dCons (dVar 3) (dCons (dVar 1) dNil))))) (hName 10) (dIfS (dTest (dDIn false (dTup (dCons (dVar 8) (dCons (dVar 10) dNil))) (dFld (cN K) "ends" (dVar 0)))) (dDrop (dBM "list" mAppend (dVar 6) (dCons (dDGet (dFld (cN K) "ends" (dVar 0)) (dTup (dCons (dVar 8) (dCons (dVar 10) dNil)))) dNil))) (dDrop (dBM "list" mExtend (dVar 4) (dCons (dMeth (cN K) "hosts_at" (sp_N_hosts_at K) (dVar 0) (dCons (dTup (dCons (dVar 8) (dCons (dVar 10) dNil))) dNil)) dNil)))))))))
    (dRet (dTup (dCons (dOp eEqD (dVar 6) (dFz (dLst dNil))) (dCons (dVar 4) (dCons (dVar 7) dNil)))))))))))
/-- Net.move: slots 0=self 1=time 2=host 3=place -/
def b_N_move (K : PySem.W.Frag) : DS :=
    (dSeq (dDrop (dMeth (cN K) "need_time" (sp_N_need_time K) (dVar 0) (dCons (dVar 1) dNil)))
    (dSeq (dDrop (dMeth (cN K) "need_host" (sp_N_need_host K) (dVar 0) (dCons (dVar 2) dNil)))
    (dSeq (dDrop (dMeth (cN K) "need_place" (sp_N_need_place K) (dVar 0) (dCons (dVar 2) (dCons (dVar 3) dNil))))
    (dSeq (dFldS (cN K) "now" (dVar 0) (dVar 1))
    (dAsg (dVar 3) (hSub (dFld (cN K) "spots" (dVar 0)) (dVar 2) eSetL))))))
/-- Net.places: slots 0=self -/
def b_N_places (K : PySem.W.Frag) : DS :=
    (dRet (dCB cList (dCons (dFld (cN K) "spots" (dVar 0)) dNil)))
/-- Net.knows: slots 0=self 1=box 2=host -/
def b_N_knows (K : PySem.W.Frag) : DS :=
    (dRet (dLcL (dFz (dCB cSortK (dCons (dOp eIxL (dFld (cN K) "known" (dVar 0)) (dVar 1)) dNil))) (.nm 2) dYes (dOp eCatT (dTup (dCons (dVar 2) dNil)) (dDGet (dOp eIxL (dFld (cN K) "known" (dVar 0)) (dVar 1)) (dVar 2))) [2]))
/-- Net.__init__: slots 0=self 1=web 2=age 3=room 4=places 5=one 6=door 7=other 8=its_door 9=number 10=box -/
def b_N_init (K : PySem.W.Frag) : DS :=
    (dSeq (dDrop (dCall (sp_need_web K) (dCons (dVar 1) dNil)))
    (dSeq (dIfS (dOr (dNot (dTest (dChain eLe eLe (dC (.int 0)) (dVar 2) (dC (.int 20))))) (dOr (dNot (dTest (dChain eLe eLe (dC (.int 1)) (dVar 3) (dC (.int 8))))) (dNot (dTest (dChain eLe eLe (dC (.int 1)) (dCB cLen (dCons (dVar 4) dNil)) (dC (.int 8))))))) dNo dNext)
    (dSeq (dFldS (cN K) "web" (dVar 0) (dVar 1))
    (dSeq (dFldS (cN K) "age" (dVar 0) (dVar 2))
    (dSeq (dFldS (cN K) "room" (dVar 0) (dVar 3))
    (dSeq (dFldS (cN K) "ends" (dVar 0) dNewT)
    (dSeq (dForT (dOp eIxT (dVar 1) (dC (.int 1))) (hTup 4 (hCons (hName 5) (hCons (hName 6) (hCons (hName 7) (hCons (hName 8) hNil))))) (dSeq (dDPut (dFld (cN K) "ends" (dVar 0)) (dTup (dCons (dVar 5) (dCons (dVar 6) dNil))) (dTup (dCons (dVar 7) (dCons (dVar 8) dNil))))
    (dDPut (dFld (cN K) "ends" (dVar 0)) (dTup (dCons (dVar 7) (dCons (dVar 8) dNil))) (dTup (dCons (dVar 5) (dCons (dVar 6) dNil))))))
    (dSeq (dForR1 (dCons (dCB cLen (dCons (dVar 4) dNil)) dNil) (hName 9) (dDrop (dMeth (cN K) "need_place" (sp_N_need_place K) (dVar 0) (dCons (dVar 9) (dCons (dOp eIxL (dVar 4) (dVar 9)) dNil)))))
    (dSeq (dFldS (cN K) "spots" (dVar 0) (dCB cList (dCons (dVar 4) dNil)))
    (dSeq (dFldS (cN K) "known" (dVar 0) (dLcR1 (dCons (dOp eIxT (dVar 1) (dC (.int 0))) dNil) (.nm 10) dYes dNewK [10]))
    (dFldS (cN K) "now" (dVar 0) (dC (.int 0)))))))))))))
end Dg
namespace Dg
open PySem PySem.Spec L2
/-- is_door: slots 0=boxes 1=box 2=door -/
def b_is_door (K : PySem.W.Frag) : DS :=
    (dRet (dAndV (dChain eLe eLt (dC (.int 0)) (dVar 1) (dVar 0)) (dChain eLe eLt (dC (.int 0)) (dVar 2) (dC (.int 4)))))
/-- need_web: slots 0=web 1=boxes 2=links 3=taken 4=number 5=one 6=door 7=other 8=its_door 9=ends 10=good 11=end -/
def b_need_web (K : PySem.W.Frag) : DS :=
    (dSeq (dAsg (dVar 0) (hTup 2 (hCons (hName 1) (hCons (hName 2) hNil))))
    (dSeq (dIfS (dNot (dTest (dChain eLe eLe (dC (.int 1)) (dVar 1) (dC (.int 6))))) dNo dNext)
    (dSeq (dAsg (dLst dNil) (hName 3))
    (dForR1 (dCons (dCB cLen (dCons (dVar 2) dNil)) dNil) (hName 4) (dSeq (dAsg (dOp eIxT (dVar 2) (dVar 4)) (hTup 4 (hCons (hName 5) (hCons (hName 6) (hCons (hName 7) (hCons (hName 8) hNil))))))
    (dSeq (dAsg (dLst (dCons (dTup (dCons (dVar 5) (dCons (dVar 6) dNil))) (dCons (dTup (dCons (dVar 7) (dCons (dVar 8) dNil))) dNil))) (hName 9))
    (dSeq (dAsg (dAndV (dOp eLt (dVar 4) (dC (.int 10))) (dAndV (dOp eNe (dVar 5) (dVar 7)) (dAndV (dCall (sp_is_door K) (dCons (dVar 1) (dCons (dVar 5) (dCons (dVar 6) dNil)))) (dCall (sp_is_door K) (dCons (dVar 1) (dCons (dVar 7) (dCons (dVar 8) dNil))))))) (hName 10))
    (dSeq (dIfS (dOr (dNot (dTest (dVar 10))) (dTest (dOp eNeD (dFz (dLcL (dVar 9) (.nm 11) (dTest (dOp (eInD false) (dVar 11) (dVar 3))) (dVar 11) [11])) (dFz (dLst dNil))))) dNo dNext)
    (dDrop (dBM "list" mExtend (dVar 3) (dCons (dVar 9) dNil)))))))))))
end Dg
namespace Dg
open PySem PySem.Spec L2
/-- _law_taken: slots 0=row 1=many 2=found 3=cell -/
def b_L_taken (K : PySem.W.Frag) : DS :=
    (dSeq (dIfS (dTest (dOp eGt (dOp eIxL (dVar 0) (dC (.int 3))) (dC (.int 0)))) (dSeq (dAsg (dOp eMod (dOp eIxL (dVar 0) (dC (.int 3))) (dVar 1)) (hName 2))
    (dSeq (dAsg (dOp eDiv (dOp eIxL (dVar 0) (dC (.int 3))) (dVar 1)) (hSub (dVar 0) (dC (.int 3)) eSetL))
    (dRet (dVar 2)))) dNext)
    (dSeq (dAsg (dOp eAdd (dOp eIxL (dVar 0) (dC (.int 1))) (dC (.int 1))) (hSub (dVar 0) (dC (.int 1)) eSetL))
    (dSeq (dIfS (dTest (dOp eGt (dOp eIxL (dVar 0) (dC (.int 1))) (dCB (cLenS K) (dCons (dOp eIxL (dVar 0) (dC (.int 0))) dNil)))) (dSeq (dAsg (dOp eMod (dOp eAdd (dOp eMul (dOp eIxL (dVar 0) (dC (.int 2))) (dC (.int 48271))) (dC (.int 11))) (dC (.int 2147483647))) (hSub (dVar 0) (dC (.int 2)) eSetL))
    (dRet (dOp eMod (dOp eDiv (dOp eIxL (dVar 0) (dC (.int 2))) (dC (.int 7))) (dVar 1)))) dNext)
    (dSeq (dAsg (dOp (eIxS K) (dOp eIxL (dVar 0) (dC (.int 0))) (dOp eSub (dOp eIxL (dVar 0) (dC (.int 1))) (dC (.int 1)))) (hName 3))
    (dSeq (dAsg (dOp eMod (dOp eAdd (dOp eAdd (dOp eMul (dOp eIxL (dVar 0) (dC (.int 2))) (dC (.int 48271))) (dVar 3)) (dC (.int 11))) (dC (.int 2147483647))) (hSub (dVar 0) (dC (.int 2)) eSetL))
    (dSeq (dIfS (dTest (dOp eGe (dVar 3) (dOp ePow (dC (.int 10)) (dC (.int 18))))) (dAsg (dOp eDiv (dVar 3) (dVar 1)) (hSub (dVar 0) (dC (.int 3)) eSetL)) dNext)
    (dRet (dOp eMod (dVar 3) (dVar 1)))))))))
/-- _law_free: slots 0=used 1=box 2=door -/
def b_L_free (K : PySem.W.Frag) : DS :=
    (dRet (dLcR1 (dCons (dC (.int 4)) dNil) (.nm 2) (dTest (dOp (eInD true) (dTup (dCons (dVar 1) (dCons (dVar 2) dNil))) (dVar 0))) (dVar 2) [2]))
/-- _law_link: slots 0=row 1=used 2=one 3=other 4=door 5=its_door -/
def b_L_link (K : PySem.W.Frag) : DS :=
    (dSeq (dIfS (dOr (dTest (dOp eEqD (dCall (sp_L_free K) (dCons (dVar 1) (dCons (dVar 2) dNil))) (dFz (dLst dNil)))) (dTest (dOp eEqD (dCall (sp_L_free K) (dCons (dVar 1) (dCons (dVar 3) dNil))) (dFz (dLst dNil))))) (dRet (dC .non)) dNext)
    (dSeq (dAsg (dOp eIxL (dCall (sp_L_free K) (dCons (dVar 1) (dCons (dVar 2) dNil))) (dCall (sp_L_taken K) (dCons (dVar 0) (dCons (dCB cLen (dCons (dCall (sp_L_free K) (dCons (dVar 1) (dCons (dVar 2) dNil))) dNil)) dNil)))) (hName 4))
    (dSeq (dAsg (dOp eIxL (dCall (sp_L_free K) (dCons (dVar 1) (dCons (dVar 3) dNil))) (dCall (sp_L_taken K) (dCons (dVar 0) (dCons (dCB cLen (dCons (dCall (sp_L_free K) (dCons (dVar 1) (dCons (dVar 3) dNil))) dNil)) dNil)))) (hName 5))
    (dSeq (dDrop (dBM "list" mExtend (dVar 1) (dCons (dFz (dLst (dCons (dTup (dCons (dVar 2) (dCons (dVar 4) dNil))) (dCons (dTup (dCons (dVar 3) (dCons (dVar 5) dNil))) dNil)))) dNil)))
    (dRet (dOp eIxL (dFz (dLst (dCons (dTup (dCons (dVar 2) (dCons (dVar 4) (dCons (dVar 3) (dCons (dVar 5) dNil))))) (dCons (dTup (dCons (dVar 3) (dCons (dVar 5) (dCons (dVar 2) (dCons (dVar 4) dNil))))) dNil)))) (dCall (sp_L_taken K) (dCons (dVar 0) (dCons (dC (.int 2)) dNil)))))))))
/-- _law_web: slots 0=row 1=rings 2=boxes 3=used 4=some 5=box 6=k 7=one 8=links 9=link_here -/
def b_L_web (K : PySem.W.Frag) : DS :=
    (dSeq (dAsg (dOp eAdd (dC (.int 1)) (dCall (sp_L_taken K) (dCons (dVar 0) (dCons (dC (.int 6)) dNil)))) (hName 2))
    (dSeq (dAsg (dLst (dCons (dTup (dCons (dOp eSub (dVar 2) (dC (.int 1))) (dCons (dC (.int 3)) dNil))) dNil)) (hName 3))
    (dSeq (dAsg (dLst dNil) (hName 4))
    (dSeq (dForR2 (dCons (dC (.int 1)) (dCons (dVar 2) dNil)) (hName 5) (dIfS (dTest (dOp eLt (dCall (sp_L_taken K) (dCons (dVar 0) (dCons (dC (.int 8)) dNil))) (dC (.int 7)))) (dDrop (dBM "list" mAppend (dVar 4) (dCons (dCall (sp_L_link K) (dCons (dVar 0) (dCons (dVar 3) (dCons (dCall (sp_L_taken K) (dCons (dVar 0) (dCons (dVar 5) dNil))) (dCons (dVar 5) dNil))))) dNil))) dNext))
    (dSeq (dForR1 (dCons (dOp eMul (dCall (sp_L_taken K) (dCons (dVar 0) (dCons (dOp eAdd (dVar 1) (dC (.int 1))) dNil))) (dCB cInt (dCons (dOp eGt (dVar 2) (dC (.int 1))) dNil))) dNil) (hName 6) (dSeq (dAsg (dCall (sp_L_taken K) (dCons (dVar 0) (dCons (dVar 2) dNil))) (hName 7))
    (dDrop (dBM "list" mAppend (dVar 4) (dCons (dCall (sp_L_link K) (dCons (dVar 0) (dCons (dVar 3) (dCons (dVar 7) (dCons (dOp eMod (dOp eAdd (dOp eAdd (dVar 7) (dC (.int 1))) (dCall (sp_L_taken K) (dCons (dVar 0) (dCons (dOp eSub (dVar 2) (dC (.int 1))) dNil)))) (dVar 2)) dNil))))) dNil)))))
    (dSeq (dAsg (dLst dNil) (hName 8))
    (dSeq (dForL (dVar 4) (hName 9) (dIfS (dAnd (dTest (dNotN (dVar 9))) (dTest (dOp eLt (dCB cLen (dCons (dVar 8) dNil)) (dC (.int 10))))) (dDrop (dBM "list" mInsert (dVar 8) (dCons (dCall (sp_L_taken K) (dCons (dVar 0) (dCons (dOp eAdd (dCB cLen (dCons (dVar 8) dNil)) (dC (.int 1))) dNil))) (dCons (dVar 9) dNil)))) dNext))
    (dRet (dTup (dCons (dVar 2) (dCons (dCB cTuple (dCons (dVar 8) dNil)) dNil)))))))))))
end Dg
namespace Dg
open PySem PySem.Spec L2
local macro_rules | `(tactic| wtm_at "ne") => `(tactic| first | assumption | (apply Ne.symm; assumption) | (grind [ud, er]))
local macro_rules | `(tactic| wtm_at "lk") => `(tactic| first | (with_reducible assumption) | (with_reducible exact ud_same) | ((with_reducible refine (ud_ne (by wtm_at "ne")).trans ?_); wtm_at "lk"))
local macro_rules | `(tactic| wtm_at "gl") => `(tactic| first | (with_reducible assumption) | (with_reducible exact lst_ref (by wtm_at "lk")) | (with_reducible exact lstOf_new (by assumption) (by assumption)) | (with_unfolding_all exact rfl))
local macro_rules | `(tactic| wtm_at "vl") => `(tactic| first | (with_reducible exact val_ref (by wtm_at "lk")) | (with_unfolding_all exact rfl))
local macro_rules | `(tactic| wtm_at "dk") => `(tactic| with_reducible first | exact dK_own (by wtm_at "lk") | exact dK_lk (by wtm_at "lk") | exact dT_own (by wtm_at "lk"))
local macro_rules | `(tactic| wtm_at "pl") => `(tactic| with_unfolding_all first | exact rfl | exact all_int _ | exact all_P2 _ | assumption)
local macro_rules | `(tactic| wtm_at "nn") => `(tactic| first | omega | decide | (simp only [List.length_cons, List.length_nil, List.length_map, List.length_append]; omega) | grind)
local macro_rules | `(tactic| wtm_at "st") => `(tactic| (simp only [stD, List.map_cons, List.map_nil, List.length_cons, List.length_nil, List.replicate, Nat.reduceAdd, Nat.reduceSub, List.cons_append, List.nil_append]))
local macro_rules | `(tactic| wtm_at "1") => `(tactic| with_reducible first
  | refine w_seq ?_ | refine w_asgN ?_ | refine w_asgS ?_ | refine w_asgT ?_ | refine w_ret ?_ | refine w_drop ?_ | refine w_ifS ?_ | refine w_test ?_ | refine w_next ?_
  | refine w_nx ?_ | refine w_nx0 ?_ | refine w_rt ?_ | refine w_bk ?_ | refine w_ct ?_
  | refine w_bl2 ?_ | refine w_and ?_ | refine w_or ?_ | refine w_not ?_ | refine w_andV ?_ | refine w_orV ?_ | refine w_notV ?_ | refine w_if ?_
  | (apply w_var; (· with_unfolding_all rfl)) | refine w_c ?_ | refine w_op ?_ | refine w_chain ?_ | refine w_nil ?_ | refine w_cons ?_ | refine w_tup ?_ | refine w_lst ?_
  | (apply w_len; (· wtm_at "nn")) | refine w_call ?_ | refine w_cb ?_ | refine w_isN ?_ | refine w_notN ?_ | refine w_fz ?_
  | refine w_add ?_ | refine w_sub ?_ | refine w_lt ?_ | refine w_le ?_ | refine w_gt ?_ | refine w_ge ?_ | (apply w_mod; (· wtm_at "nn")) | (apply w_div; (· wtm_at "nn"); (· wtm_at "nn"))
  | (apply w_eq; (· with_unfolding_all rfl)) | (apply w_ne; (· with_unfolding_all rfl))
  | (apply w_ixT; (· with_unfolding_all rfl)) | (apply w_ixL; (· wtm_at "gl"); (· with_unfolding_all rfl))
  | refine w_lenT ?_ | (apply w_lenL; (· wtm_at "gl")) | refine w_min2 ?_ | refine w_max2 ?_ | refine w_intB ?_ | (apply w_tupleL; (· wtm_at "gl"))
  | refine w_bm ?_ | refine w_bm0 ?_ | (apply w_ty; (· wtm_at "gl"))
  | (apply w_setL; (· wtm_at "lk"); (· with_unfolding_all rfl)) | (apply w_append; (· wtm_at "lk"); (· wtm_at "nn")) | (apply w_extend; (· wtm_at "lk"); (· wtm_at "gl"); (· wtm_at "nn"))
  | refine w_hcons ?_ | refine w_hnil ?_ | refine w_hname ?_ | (apply w_exT; (· with_unfolding_all rfl))
  | refine w_lcR1 ?_ | refine w_lcL ?_ | refine w_lcT ?_ | refine w_forR1 ?_ | refine w_forR2 ?_ | refine w_forL ?_ | refine w_forT ?_ | refine w_yes ?_ | refine w_cnm ?_ | (apply w_ctp; (· with_unfolding_all rfl))
  | (apply w_exL; (· wtm_at "gl")) | refine w_exTu ?_ | (apply w_exI; (· wtm_at "nn")) | (apply w_exI2; (· wtm_at "nn")) | refine w_exII ?_
  | refine w_dget ?_ | refine w_din ?_ | refine w_dget1 ?_ | refine w_dput ?_ | refine w_dpop1 ?_ | refine w_lenSet ?_ | refine w_listRng ?_ | refine w_notInRng ?_
  | (apply w_inK; (· wtm_at "dk"); (· with_unfolding_all rfl)) | (apply w_inT; (· wtm_at "dk"); (· with_unfolding_all rfl))
  | (apply w_isK; (· wtm_at "dk")) | (apply w_isT; (· wtm_at "dk"))
  | (apply w_putK; (· wtm_at "lk"); (· with_unfolding_all rfl); (· wtm_at "nn")) | (apply w_putT; (· wtm_at "lk"); (· with_unfolding_all rfl); (· wtm_at "nn")))
local macro_rules | `(tactic| wtm_at "x") => `(tactic| with_reducible first
  | (apply w_taken; (· wtm_at "lk"); (· wtm_at "nn"); (· wtm_at "nn")) | (apply w_eqD; (· wtm_at "vl"); (· wtm_at "vl"); (· wtm_at "pl"); (· wtm_at "pl")) | (apply w_neD; (· wtm_at "vl"); (· wtm_at "vl"); (· wtm_at "pl"); (· wtm_at "pl"))
  | (refine vR_frz (by assumption) ?_) | refine frz_let ?_)
local macro_rules | `(tactic| wtm_at "w") => `(tactic| repeat (first | wtm_at "1" | wtm_at "x"))
theorem r_L_taken {K : PySem.W.Frag} : Rd 4 (b_L_taken K) (sp_L_taken K) := by
  rintro _ G Q ⟨r, m, rfl, hr, h0, h1, q⟩
  wtm_at "st"
  intro F H σ is hg
  obtain ⟨G1, sc, ns, i, sd, rs, ⟨b1, b2, b3, b4⟩, h2, h3, hg1, hc⟩ := row_open hg hr
  refine ⟨F, _, G1, Ext.refl F H, is, hg1, ?_⟩
  unfold b_L_taken
  wtm_at "w"
  refine w_ite (fun c => ?_) (fun c => ?_)
  · wtm_at "w"
    exact vR_to (fun F' H' g => hc F' H' i sd (rs / m) ⟨b1, b2, b3, Int.ediv_nonneg (by omega) (by omega)⟩ g) (q _ (Int.emod_nonneg _ (by omega)) (Int.emod_lt_of_pos _ h0))
  · wtm_at "w"
    refine w_lenS (h3 _) ?_
    wtm_at "w"
    have hm0 : ∀ z : Int, 0 ≤ z % 2147483647 := fun z => Int.emod_nonneg _ (by decide)
    have hm1 : ∀ z : Int, z % 2147483647 < 2147483647 := fun z => Int.emod_lt_of_pos _ (by decide)
    refine w_ite (fun c2 => ?_) (fun c2 => ?_)
    · wtm_at "w"
      refine w_mul (.inr (by omega)) ?_
      wtm_at "w"
      simp only [ud_ud]
      exact vR_to (fun F' H' g => hc F' H' (i + 1) _ rs ⟨by omega, hm0 _, hm1 _, b4⟩ g) (q _ (Int.emod_nonneg _ (by omega)) (Int.emod_lt_of_pos _ h0))
    · wtm_at "w"
      simp only [decide_eq_false_iff_not] at c2
      have e : atI ns (i + 1 - 1) = ns[i.toNat]? := by
        have := atI_pos (xs := ns) (i := i) b1 (by omega)
        rw [← this]
        congr 1
        omega
      have e2 : ns[i.toNat]? = some (ns[i.toNat]'(by omega)) := List.getElem?_eq_getElem (by omega)
      refine w_ixS (h3 _) (e.trans e2) ?_
      generalize ns[i.toNat]'(by omega) = cell
      wtm_at "w"
      refine w_mul (.inr (by omega)) ?_
      wtm_at "w"
      refine w_pow ⟨by decide, by decide, by decide⟩ ?_
      wtm_at "w"
      simp only [ud_ud]
      refine w_ite (fun c3 => ?_) (fun c3 => ?_)
      · wtm_at "w"
        simp only [ud_ud]
        have c4 : (10 : Int) ^ 18 ≤ cell := by simpa using c3
        exact vR_to (fun F' H' g => hc F' H' (i + 1) _ (cell / m) ⟨by omega, hm0 _, hm1 _, Int.ediv_nonneg (by omega) (by omega)⟩ g) (q _ (Int.emod_nonneg _ (by omega)) (Int.emod_lt_of_pos _ h0))
      · wtm_at "w"
        exact vR_to (fun F' H' g => hc F' H' (i + 1) _ rs ⟨by omega, hm0 _, hm1 _, b4⟩ g) (q _ (Int.emod_nonneg _ (by omega)) (Int.emod_lt_of_pos _ h0))
theorem freeD_map (us : List (Int × Int)) (b : Int) : (List.range (Int.toNat 4)).filterMap (fun (i : Nat) => if (b, (i : Int)) ∈ us then none else some (D.int (i : Int))) = (freeD us b).map D.int := by
  have e : List.range (Int.toNat 4) = [0, 1, 2, 3] := rfl
  rw [e]
  unfold freeD
  simp only [List.filterMap_cons, List.filterMap_nil, List.filter_cons, List.filter_nil, decide_eq_true_eq]
  grind
theorem r_L_free {K : PySem.W.Frag} : Rd 3 (b_L_free K) (sp_L_free K) := by
  rintro _ G Q ⟨x, us, b, rfl, hx, hl, q⟩
  wtm_at "st"
  refine vN0 ?_
  unfold b_L_free
  wtm_at "w"
  refine lc_pure (fun i => if (b, (i : Int)) ∈ us then none else some (.int (i : Int))) (by decide) (fun _ _ _ => trivial) ?_ ?_
  · rintro i d p acc N M hi rfl hp hN hM
    wtm_at "w"
    refine w_inD (lstOf_new hx hp) rfl (all_P2 us) fun c hc => ?_
    wtm_at "w"
    rw [Int.zero_add, show D.tup [D.int b, D.int (i : Int)] = P2 (b, (i : Int)) from rfl, mem_P2] at hc
    rw [bx_t]
    refine w_ite (fun h => ?_) (fun h => ?_)
    · wtm_at "w"
      rw [Int.zero_add]
      exact hN _ (if_neg (by grind))
    · exact hM (if_pos (by grind))
  · intro p hp
    wtm_at "w"
    rw [freeD_map]
    exact vR_frz hp q
local macro_rules | `(tactic| wtm_at "x") => `(tactic| with_reducible (apply w_free; (· wtm_at "gl"); (· wtm_at "nn")))
theorem r_L_link {K : PySem.W.Frag} : Rd 6 (b_L_link K) (sp_L_link K) := by
  rintro _ G Q ⟨r, u, us, a, b, rfl, hr, hu, hl, qn, q⟩
  wtm_at "st"
  refine vN0 ?_
  unfold b_L_link
  wtm_at "w"
  intro c1 hc1
  wtm_at "w"
  rw [freeD_nil] at hc1
  refine w_ite (fun h => ?_) (fun h => ?_)
  · wtm_at "w"
    refine w_iteT rfl ?_
    wtm_at "w"
    exact vR0 (qn (.inl (hc1.mp h)))
  · wtm_at "w"
    intro c2 hc2
    wtm_at "w"
    rw [freeD_nil] at hc2
    refine w_ite (fun h2 => ?_) (fun h2 => ?_)
    · wtm_at "w"
      exact vR0 (qn (.inr (hc2.mp h2)))
    · have e1 : freeD us a ≠ [] := fun z => by rw [hc1.mpr z] at h; cases h
      have e2 : freeD us b ≠ [] := fun z => by rw [hc2.mpr z] at h2; cases h2
      have l1 : 0 < (freeD us a).length := List.length_pos_iff.mpr e1
      have l2 : 0 < (freeD us b).length := List.length_pos_iff.mpr e2
      have l3 : (freeD us a).length ≤ 4 := freeD_len
      have l4 : (freeD us b).length ≤ 4 := freeD_len
      wtm_at "w"
      intro k h0 h1
      rw [List.length_map] at h1
      wtm_at "w"
      refine w_ixL rfl (map_at h0 (by omega)) ?_
      wtm_at "w"
      intro k2 h3 h4
      rw [List.length_map] at h4
      wtm_at "w"
      refine w_ixL rfl (map_at h3 (by omega)) ?_
      have m1 : (freeD us a)[k.toNat]'(by omega) ∈ freeD us a := List.getElem_mem _
      have m2 : (freeD us b)[k2.toNat]'(by omega) ∈ freeD us b := List.getElem_mem _
      generalize (freeD us a)[k.toNat]'(by omega) = x at m1 ⊢
      generalize (freeD us b)[k2.toNat]'(by omega) = y at m2 ⊢
      wtm_at "w"
      intro k3 h5 h6
      have e3 : ud G u (.sm (.lst (us.map P2 ++ [.tup [.int a, .int x], .tup [.int b, .int y]]))) = ud G u (.sm (.lst ((us ++ [(a, x), (b, y)]).map P2))) := by
        rw [List.map_append]
        rfl
      rw [e3]
      rcases (by omega : k3 = 0 ∨ k3 = 1) with rfl | rfl
      · wtm_at "w"
        exact vR0 (q x y (Mg.Lk.mk a x b y) m1 m2 (.inl rfl))
      · wtm_at "w"
        exact vR0 (q x y (Mg.Lk.mk b y a x) m1 m2 (.inr rfl))
def smD : Option Mg.Lk → D
  | none => .non
  | some l => l.d
/-- links drawn so far; the doors used -/
structure SmOk (n : Int) (us : List (Int × Int)) (ls : List Mg.Lk) : Prop where
  ok : ∀ l ∈ ls, LkOk n l
  nd : (endsL ls).Nodup
  inn : ∀ e ∈ endsL ls, e ∈ us ∧ e ≠ (n - 1, 3)
  last : (n - 1, (3 : Int)) ∈ us
theorem endsL_snoc {ls : List Mg.Lk} {l : Mg.Lk} : endsL (ls ++ [l]) = endsL ls ++ [l.e1, l.e2] := by simp [endsL]
theorem SmOk.snoc {n : Int} {us : List (Int × Int)} {ls : List Mg.Lk} {a b x y : Int} {l : Mg.Lk} (h : SmOk n us ls) (hx : x ∈ freeD us a) (hy : y ∈ freeD us b) (ne : a ≠ b) (a0 : 0 ≤ a) (an : a < n) (b0 : 0 ≤ b) (bn : b < n) (hl : l = Mg.Lk.mk a x b y ∨ l = Mg.Lk.mk b y a x) : SmOk n (us ++ [(a, x), (b, y)]) (ls ++ [l]) := by
  obtain ⟨h1, h2, h3, h4⟩ := h
  have hx := mem_freeD.mp hx
  have hy := mem_freeD.mp hy
  refine ⟨?_, ?_, ?_, by simp [h4]⟩
  · intro m hm
    rcases List.mem_append.mp hm with hm | hm
    · exact h1 m hm
    · simp only [List.mem_singleton] at hm
      subst hm
      rcases hl with rfl | rfl
      · exact ⟨ne, a0, an, b0, bn, hx.1.1, hx.1.2, hy.1.1, hy.1.2⟩
      · exact ⟨fun z => ne z.symm, b0, bn, a0, an, hy.1.1, hy.1.2, hx.1.1, hx.1.2⟩
  · rw [endsL_snoc, List.nodup_append]
    refine ⟨h2, ?_, ?_⟩
    · rcases hl with rfl | rfl <;> simp [Mg.Lk.e1, Mg.Lk.e2, ne]
      intro z; exact absurd z.symm ne
    · intro e he f hf
      have := (h3 e he).1
      rintro rfl
      rcases hl with rfl | rfl <;> simp only [Mg.Lk.e1, Mg.Lk.e2, List.mem_cons, List.not_mem_nil, or_false] at hf <;> grind
  · intro e he
    rw [endsL_snoc] at he
    rcases List.mem_append.mp he with he | he
    · exact ⟨by simp [(h3 e he).1], (h3 e he).2⟩
    · rcases hl with rfl | rfl <;> simp only [Mg.Lk.e1, Mg.Lk.e2, List.mem_cons, List.not_mem_nil, or_false] at he <;> grind
theorem endsL_perm {ls ms : List Mg.Lk} (h : ls.Perm ms) : (endsL ls).Perm (endsL ms) := h.flatMap_right _
theorem endsL_sub {ls ms : List Mg.Lk} (h : ls.Sublist ms) : (endsL ls).Sublist (endsL ms) := by
  induction h with
  | slnil => exact List.Sublist.slnil
  | cons a _ ih => exact ih.trans (by simp [endsL])
  | cons_cons a _ ih => exact (List.Sublist.refl [a.e1, a.e2]).append ih
theorem SmOk.web {n : Int} {us : List (Int × Int)} {ls sub ms : List Mg.Lk} (h : SmOk n us ms) (h1 : sub.Sublist ms) (h2 : ls.Perm sub) (n1 : 1 ≤ n) (n6 : n ≤ 6) (len : ls.length ≤ 10) : WebOk n ls := by
  have hs : ∀ e ∈ endsL ls, e ∈ endsL ms := fun e he => (endsL_sub h1).subset ((endsL_perm h2).subset he)
  refine ⟨n1, n6, len, fun l hl => h.ok l (h1.subset (h2.subset hl)), ?_, fun z => (h.inn _ (hs _ z)).2 rfl⟩
  exact (endsL_perm h2).nodup_iff.mpr ((endsL_sub h1).nodup h.nd)
theorem forest_of {ls sub ms : List Mg.Lk} (h : Forest ms) (h1 : sub.Sublist ms) (h2 : ls.Perm sub) : Forest ls := by
  unfold Forest at h ⊢
  exact (h2.map _).nodup_iff.mpr ((h1.map _).nodup h)
theorem ins_perm {α : Type} (xs : List α) (k : Nat) (y : α) : (xs.take k ++ [y] ++ xs.drop k).Perm (xs ++ [y]) := by
  have h1 : (xs.take k ++ [y] ++ xs.drop k).Perm (xs.take k ++ xs.drop k ++ [y]) := by
    rw [List.append_assoc, List.append_assoc]
    exact (List.Perm.refl _).append List.perm_append_comm
  rwa [List.take_append_drop] at h1
theorem otherBox {n a t : Int} (h0 : 0 ≤ a) (h1 : a < n) (t0 : 0 ≤ t) (t1 : t < n - 1) : a ≠ (a + 1 + t) % n ∧ 0 ≤ (a + 1 + t) % n ∧ (a + 1 + t) % n < n := by
  have e : (a + 1 + t) % n = if a + 1 + t < n then a + 1 + t else a + 1 + t - n := by
    split
    · exact Int.emod_eq_of_lt (by omega) (by omega)
    · rw [← Int.sub_emod_right, Int.emod_eq_of_lt (by omega) (by omega)]
  rw [e]
  split <;> omega
theorem w_link {K : PySem.W.Frag} {G : Gp} {Q : DK} {r u : Addr} {us : List (Int × Int)} {a b : Int} (hr : G r = some (gRow K)) (hu : G u = some (.sm (.lst (us.map P2)))) (hl : us.length ≤ 500) (q0 : Q .non G)
    (q : ∀ x y l, x ∈ freeD us a → y ∈ freeD us b → (l = Mg.Lk.mk a x b y ∨ l = Mg.Lk.mk b y a x) → Q l.d (ud G u (.sm (.lst ((us ++ [(a, x), (b, y)]).map P2))))) : sp_L_link K [.ref r, .ref u, .int a, .int b] G Q := ⟨r, u, us, a, b, rfl, hr, hu, hl, fun _ => q0, q⟩
theorem r_L_web {K : PySem.W.Frag} : Rd 10 (b_L_web K) (sp_L_web K) := by
  rintro _ G Q ⟨r, R, rfl, hr, R0, R6, q⟩
  wtm_at "st"
  refine vN0 ?_
  unfold b_L_web
  wtm_at "w"
  intro b0 hb0 hb6
  wtm_at "w"
  intro u hu
  wtm_at "w"
  intro s hs
  have hur : r ≠ u := fun z => by rw [← z, hr] at hu; cases hu
  have hsu : s ≠ u := fun z => by rw [z, ud_same] at hs; cases hs
  have hs0 : G s = none := by rw [ud_ne hsu] at hs; exact hs
  have hsr : r ≠ s := fun z => by rw [← z, hr] at hs0; cases hs0
  wtm_at "w"
  generalize hn : 1 + b0 = n
  have n1 : 1 ≤ n := by omega
  have n6 : n ≤ 6 := by omega
  -- the state: the doors used, what was drawn
  let S : List (Int × Int) × List (Option Mg.Lk) → DSt := fun _ => [some (.ref r), some (.int R), some (.int n), some (.ref u), some (.ref s), none, none, none, none, none]
  let GG : List (Int × Int) × List (Option Mg.Lk) → Gp := fun a => ud (ud G u (.sm (.lst (a.1.map P2)))) s (.sm (.lst (a.2.map smD)))
  have gr : ∀ a, GG a r = some (gRow K) := fun a => by show ud (ud G u _) s _ r = _; rw [ud_ne hsr, ud_ne hur]; exact hr
  have gu : ∀ a, GG a u = some (.sm (.lst (a.1.map P2))) := fun a => by show ud (ud G u _) s _ u = _; rw [ud_ne (Ne.symm hsu), ud_same]
  have gs : ∀ a, GG a s = some (.sm (.lst (a.2.map smD))) := fun a => ud_same
  have gu2 : ∀ (a : List (Int × Int) × List (Option Mg.Lk)) us', ud (GG a) u (.sm (.lst (us'.map P2))) = GG (us', a.2) := fun a us' => by
    show ud (ud (ud G u _) s _) u _ = ud (ud G u _) s _
    rw [ud_comm hsu, ud_ud]
  have gs2 : ∀ (a : List (Int × Int) × List (Option Mg.Lk)) o, ud (GG a) s (.sm (.lst (a.2.map smD ++ [smD o]))) = GG (a.1, a.2 ++ [o]) := fun a o => by
    show ud (ud (ud G u _) s _) s _ = ud (ud G u _) s _
    rw [ud_ud, List.map_append]
    rfl
  refine for_st (fun i a => SmOk n a.1 (a.2.filterMap id) ∧ a.1.length = 1 + 2 * (a.2.filterMap id).length ∧ a.2.length ≤ i ∧ Forest (a.2.filterMap id) ∧ ∀ l ∈ a.2.filterMap id, max l.a l.b < 1 + (i : Int)) S GG ([(n - 1, 3)], []) ?_ rfl rfl (fun _ _ _ _ => trivial) ?_ ?_
  · exact ⟨⟨by simp, by simp [endsL], by simp [endsL], by simp⟩, by simp, by simp, by simp [Forest], by simp⟩
  · rintro i d ⟨us, sm⟩ hi rfl ⟨w1, w2, w3, w4, w5⟩
    dsimp only at w1 w2 w3 w4 w5
    wtm_at "w"
    intro k k0 k1
    wtm_at "w"
    refine w_ite (fun c => ?_) (fun c => ?_)
    · wtm_at "w"
      intro k2 k20 k21
      have hlen : (sm.filterMap id).length ≤ sm.length := List.length_filterMap_le _ _
      wtm_at "w"
      refine w_link (gr _) (gu _) (show us.length ≤ 500 by omega) ?_ ?_
      · wtm_at "w"
        refine w_st (us, sm ++ [none]) ⟨by simpa using w1, by simpa using w2, by simp; omega, by simpa using w4, fun l hl => ?_⟩ (.keep (.keep (.keep (.keep (.keep (.drop .refl)))))) ?_
        · have := w5 l (by simpa using hl)
          omega
        · rw [show D.non = smD none from rfl, gs2]
          exact fun _ _ h => h
      · intro x y l hx hy hl
        wtm_at "w"
        refine w_st (us ++ [(k2, x), (1 + (i : Int), y)], sm ++ [some l]) ⟨?_, ?_, by simp; omega, ?_, fun m hm => ?_⟩ (.keep (.keep (.keep (.keep (.keep (.drop .refl)))))) ?_
        · simp only [List.filterMap_append, List.filterMap_cons, id, List.filterMap_nil]
          exact w1.snoc hx hy (by omega) (by omega) (by omega) (by omega) (by omega) hl
        · simp only [List.filterMap_append, List.filterMap_cons, id, List.filterMap_nil, List.length_append, List.length_cons, List.length_nil] at w2 ⊢
          omega
        · unfold Forest at w4 ⊢
          simp only [List.filterMap_append, List.filterMap_cons, id, List.filterMap_nil, List.map_append, List.map_cons, List.map_nil]
          rw [List.nodup_append]
          refine ⟨w4, by simp, ?_⟩
          intro e he f hf
          simp only [List.mem_singleton] at hf
          obtain ⟨m, hm, rfl⟩ := List.mem_map.mp he
          have := w5 m hm
          have e2 : max l.a l.b = 1 + (i : Int) := by rcases hl with rfl | rfl <;> simp only <;> omega
          omega
        · simp only [List.filterMap_append, List.filterMap_cons, id, List.filterMap_nil, List.mem_append, List.mem_singleton] at hm
          rcases hm with hm | rfl
          · have := w5 m hm
            omega
          · have e2 : max m.a m.b = 1 + (i : Int) := by rcases hl with rfl | rfl <;> simp only <;> omega
            omega
        · rw [gu2, show l.d = smD (some l) from rfl, gs2 (us ++ [(k2, x), (1 + (i : Int), y)], sm)]
          exact fun _ _ h => h
    · wtm_at "w"
      refine w_st (us, sm) ⟨w1, w2, show sm.length ≤ i + 1 by omega, w4, fun l hl => ?_⟩ (.keep (.keep (.keep (.keep (.keep (.drop .refl)))))) fun _ _ h => h
      have := w5 l hl
      omega
  · rintro ⟨us, sm⟩ ⟨w1, w2, w3, w4, w5⟩
    dsimp only at w1 w2 w3 w4 w5
    have hlen : (sm.filterMap id).length ≤ sm.length := List.length_filterMap_le _ _
    have hsm : sm.length ≤ 5 := by omega
    wtm_at "w"
    intro kr kr0 kr1
    wtm_at "w"
    refine w_mul (.inl (by omega)) ?_
    wtm_at "w"
    generalize hj : kr * (if decide (1 < n) = true then (1 : Int) else 0) = j
    have hj0 : 0 ≤ j ∧ j ≤ 6 ∧ (0 < j → 1 < n ∧ 0 < R) := by
      by_cases hn2 : 1 < n
      · rw [decide_eq_true hn2, if_pos rfl] at hj
        omega
      · rw [decide_eq_false hn2, if_neg Bool.false_ne_true] at hj
        omega
    wtm_at "w"
    refine for_st (fun i a => SmOk n a.1 (a.2.filterMap id) ∧ a.1.length = 1 + 2 * (a.2.filterMap id).length ∧ a.2.length ≤ 5 + i ∧ (R = 0 → Forest (a.2.filterMap id))) S GG (us, sm) ⟨w1, w2, by omega, fun _ => w4⟩ rfl rfl (fun _ _ _ _ => trivial) ?_ ?_
    · rintro i d ⟨us, sm⟩ hi rfl ⟨w1, w2, w3, w4⟩
      dsimp only at w1 w2 w3 w4
      obtain ⟨hn2, hR⟩ := hj0.2.2 (by omega)
      wtm_at "w"
      intro a a0 a1
      wtm_at "w"
      intro t t0 t1
      wtm_at "w"
      obtain ⟨o1, o2, o3⟩ := otherBox a0 a1 t0 t1
      generalize (a + 1 + t) % n = b at o1 o2 o3 ⊢
      have hlen : (sm.filterMap id).length ≤ sm.length := List.length_filterMap_le _ _
      refine w_link (gr _) (gu _) (show us.length ≤ 500 by omega) ?_ ?_
      · wtm_at "w"
        refine w_st (us, sm ++ [none]) ⟨by simpa using w1, by simpa using w2, by simp; omega, fun z => by omega⟩ (.keep (.keep (.keep (.keep (.keep (.keep (.drop (.drop .refl)))))))) ?_
        rw [show D.non = smD none from rfl, gs2]
        exact fun _ _ h => h
      · intro x y l hx hy hl
        wtm_at "w"
        refine w_st (us ++ [(a, x), (b, y)], sm ++ [some l]) ⟨?_, ?_, by simp; omega, fun z => by omega⟩ (.keep (.keep (.keep (.keep (.keep (.keep (.drop (.drop .refl)))))))) ?_
        · simp only [List.filterMap_append, List.filterMap_cons, id, List.filterMap_nil]
          exact w1.snoc hx hy o1 a0 a1 o2 o3 hl
        · simp only [List.filterMap_append, List.filterMap_cons, id, List.filterMap_nil, List.length_append, List.length_cons, List.length_nil] at w2 ⊢
          omega
        · rw [gu2, show l.d = smD (some l) from rfl, gs2 (us ++ [(a, x), (b, y)], sm)]
          exact fun _ _ h => h
    · rintro ⟨us, sm⟩ ⟨w1, w2, w3, w4⟩
      dsimp only at w1 w2 w3 w4
      have hlen : (sm.filterMap id).length ≤ sm.length := List.length_filterMap_le _ _
      have hsm : sm.length ≤ 11 := by omega
      wtm_at "w"
      intro l hl
      have hls : l ≠ s := fun z => by rw [z, gs] at hl; cases hl
      have hlr : r ≠ l := fun z => by rw [← z, gr] at hl; cases hl
      wtm_at "w"
      let S2 : List Mg.Lk → DSt := fun _ => [some (.ref r), some (.int R), some (.int n), some (.ref u), some (.ref s), none, none, none, some (.ref l), none]
      let GG2 : List Mg.Lk → Gp := fun ls => ud (GG (us, sm)) l (.sm (.lst (ls.map Mg.Lk.d)))
      have g2s : ∀ a, GG2 a s = some (.sm (.lst (sm.map smD))) := fun a => (ud_ne (Ne.symm hls)).trans (gs _)
      have g2r : ∀ a, GG2 a r = some (gRow K) := fun a => (ud_ne hlr).trans (gr _)
      have g2l : ∀ a, GG2 a l = some (.sm (.lst (a.map Mg.Lk.d))) := fun a => ud_same
      refine for_st (fun i ls => ∃ sub, List.Sublist sub ((sm.take i).filterMap id) ∧ ls.Perm sub ∧ ls.length ≤ 10) S2 GG2 [] ⟨[], by simp, .refl _, by simp⟩ rfl rfl (fun i a _ _ => lst_ref (g2s a)) ?_ ?_
      · rintro i d ls hi hit ⟨sub, v1, v2, v3⟩
        rw [List.length_map] at hi
        rw [List.getElem?_map, List.getElem?_eq_getElem hi] at hit
        simp only [Option.map_some, Option.some.injEq] at hit
        subst hit
        have et : (sm.take (i + 1)).filterMap id = (sm.take i).filterMap id ++ (match sm[i] with | none => [] | some l => [l]) := by
          rw [List.take_succ, List.getElem?_eq_getElem hi, List.filterMap_append]
          cases sm[i] <;> rfl
        cases e : sm[i] with
        | none =>
          rw [e] at et
          have e2 : smD (none : Option Mg.Lk) = .non := rfl
          rw [e2]
          wtm_at "w"
          refine w_iteF rfl ?_
          refine w_iteF rfl ?_
          wtm_at "w"
          exact w_st ls ⟨sub, by rw [et]; simpa using v1, v2, v3⟩ (.keep (.keep (.keep (.keep (.keep (.keep (.keep (.keep (.keep (.drop .refl)))))))))) fun _ _ h => h
        | some m =>
          rw [e] at et
          have e2 : smD (some m) = m.d := rfl
          rw [e2]
          wtm_at "w"
          refine w_iteT rfl ?_
          wtm_at "w"
          rw [List.length_map]
          refine w_ite (fun c => ?_) (fun c => ?_)
          · have c2 : ls.length < 10 := by have := of_decide_eq_true c; omega
            wtm_at "w"
            intro k k0 k1
            rw [List.length_map] at k1
            wtm_at "w"
            refine w_insert (g2l _) (by rw [List.length_map]; omega) k0 (by omega) ?_
            wtm_at "w"
            refine w_st (ls.take k.toNat ++ [m] ++ ls.drop k.toNat) ⟨sub ++ [m], ?_, ?_, ?_⟩ (.keep (.keep (.keep (.keep (.keep (.keep (.keep (.keep (.keep (.drop .refl)))))))))) ?_
            · rw [et]
              exact v1.append (List.Sublist.refl _)
            · exact (ins_perm ls k.toNat m).trans (v2.append (List.Perm.refl _))
            · have := (ins_perm ls k.toNat m).length_eq
              rw [this, List.length_append]
              simp
              omega
            · show ∀ b x, ud (GG (us, sm)) l _ b = some x → ud (ud (GG (us, sm)) l _) l _ b = some x
              rw [ud_ud, List.map_append, List.map_append, List.map_take, List.map_drop]
              exact fun _ _ h => h
          · wtm_at "w"
            exact w_st ls ⟨sub, by rw [et]; exact v1.trans (List.sublist_append_left ..), v2, v3⟩ (.keep (.keep (.keep (.keep (.keep (.keep (.keep (.keep (.keep (.drop .refl)))))))))) fun _ _ h => h
      · rintro ls ⟨sub, v1, v2, v3⟩
        rw [List.length_map, List.take_length] at v1
        wtm_at "w"
        refine vR_sub ?_ (q n ls (w1.web v1 v2 n1 n6 v3) fun z => forest_of (w4 z) v1 v2)
        intro a x ha
        have hal : a ≠ l := fun z => by
          rw [z] at ha
          have : GG (us, sm) l = none := hl
          by_cases e : l = u
          · rw [e, hu] at ha; cases ha
          · rw [show GG (us, sm) l = ud (ud G u _) s _ l from rfl, ud_ne hls, ud_ne e, ha] at this
            cases this
        have has : a ≠ s := fun z => by rw [z, hs0] at ha; cases ha
        have hau : a ≠ u := fun z => by rw [z, hu] at ha; cases ha
        show ud (ud (ud G u _) s _) l _ a = some x
        rw [ud_ne hal, ud_ne has, ud_ne hau]
        exact ha
end Dg
namespace Dg
open PySem PySem.Spec L2
local macro_rules | `(tactic| wtm_at "ne") => `(tactic| first | assumption | (apply Ne.symm; assumption) | (grind [ud, er]))
local macro_rules | `(tactic| wtm_at "lk") => `(tactic| first | (with_reducible assumption) | (with_reducible exact ud_same) | ((with_reducible refine (ud_ne (by wtm_at "ne")).trans ?_); wtm_at "lk"))
local macro_rules | `(tactic| wtm_at "gl") => `(tactic| first | (with_reducible assumption) | (with_reducible exact lst_ref (by wtm_at "lk")) | (with_reducible exact lstOf_new (by assumption) (by assumption)) | (with_unfolding_all exact rfl))
local macro_rules | `(tactic| wtm_at "vl") => `(tactic| first | (with_reducible exact val_ref (by wtm_at "lk")) | (with_unfolding_all exact rfl))
local macro_rules | `(tactic| wtm_at "dk") => `(tactic| with_reducible first | exact dK_own (by wtm_at "lk") | exact dK_lk (by wtm_at "lk") | exact dT_own (by wtm_at "lk"))
local macro_rules | `(tactic| wtm_at "pl") => `(tactic| with_unfolding_all first | exact rfl | exact all_int _ | exact all_P2 _ | assumption)
local macro_rules | `(tactic| wtm_at "nn") => `(tactic| first | omega | decide | (simp only [List.length_cons, List.length_nil, List.length_map, List.length_append]; omega) | grind)
local macro_rules | `(tactic| wtm_at "st") => `(tactic| (simp only [stD, List.map_cons, List.map_nil, List.length_cons, List.length_nil, List.replicate, Nat.reduceAdd, Nat.reduceSub, List.cons_append, List.nil_append]))
local macro_rules | `(tactic| wtm_at "1") => `(tactic| with_reducible first
  | refine w_seq ?_ | refine w_asgN ?_ | refine w_asgS ?_ | refine w_asgT ?_ | refine w_ret ?_ | refine w_drop ?_ | refine w_ifS ?_ | refine w_test ?_ | refine w_next ?_
  | refine w_nx ?_ | refine w_nx0 ?_ | refine w_rt ?_ | refine w_bk ?_ | refine w_ct ?_
  | refine w_bl2 ?_ | refine w_and ?_ | refine w_or ?_ | refine w_not ?_ | refine w_andV ?_ | refine w_orV ?_ | refine w_notV ?_ | refine w_if ?_
  | (apply w_var; (· with_unfolding_all rfl)) | refine w_c ?_ | refine w_op ?_ | refine w_chain ?_ | refine w_nil ?_ | refine w_cons ?_ | refine w_tup ?_ | refine w_lst ?_
  | (apply w_len; (· wtm_at "nn")) | refine w_call ?_ | refine w_cb ?_ | refine w_isN ?_ | refine w_notN ?_ | refine w_fz ?_
  | refine w_add ?_ | refine w_sub ?_ | refine w_lt ?_ | refine w_le ?_ | refine w_gt ?_ | refine w_ge ?_ | (apply w_mod; (· wtm_at "nn")) | (apply w_div; (· wtm_at "nn"); (· wtm_at "nn"))
  | (apply w_eq; (· with_unfolding_all rfl)) | (apply w_ne; (· with_unfolding_all rfl))
  | (apply w_ixT; (· with_unfolding_all rfl)) | (apply w_ixL; (· wtm_at "gl"); (· with_unfolding_all rfl))
  | refine w_lenT ?_ | (apply w_lenL; (· wtm_at "gl")) | refine w_min2 ?_ | refine w_max2 ?_ | refine w_intB ?_ | (apply w_tupleL; (· wtm_at "gl"))
  | refine w_bm ?_ | refine w_bm0 ?_ | (apply w_ty; (· wtm_at "gl"))
  | (apply w_setL; (· wtm_at "lk"); (· with_unfolding_all rfl)) | (apply w_append; (· wtm_at "lk"); (· wtm_at "nn")) | (apply w_extend; (· wtm_at "lk"); (· wtm_at "gl"); (· wtm_at "nn"))
  | refine w_hcons ?_ | refine w_hnil ?_ | refine w_hname ?_ | (apply w_exT; (· with_unfolding_all rfl))
  | refine w_lcR1 ?_ | refine w_lcL ?_ | refine w_lcT ?_ | refine w_forR1 ?_ | refine w_forR2 ?_ | refine w_forL ?_ | refine w_forT ?_ | refine w_yes ?_ | refine w_cnm ?_ | (apply w_ctp; (· with_unfolding_all rfl))
  | (apply w_exL; (· wtm_at "gl")) | refine w_exTu ?_ | (apply w_exI; (· wtm_at "nn")) | (apply w_exI2; (· wtm_at "nn")) | refine w_exII ?_
  | refine w_dget ?_ | refine w_din ?_ | refine w_dget1 ?_ | refine w_dput ?_ | refine w_dpop1 ?_ | refine w_lenSet ?_ | refine w_listRng ?_ | refine w_notInRng ?_
  | (apply w_inK; (· wtm_at "dk"); (· with_unfolding_all rfl)) | (apply w_inT; (· wtm_at "dk"); (· with_unfolding_all rfl))
  | (apply w_isK; (· wtm_at "dk")) | (apply w_isT; (· wtm_at "dk"))
  | (apply w_putK; (· wtm_at "lk"); (· with_unfolding_all rfl); (· wtm_at "nn")) | (apply w_putT; (· wtm_at "lk"); (· with_unfolding_all rfl); (· wtm_at "nn")))
local macro_rules | `(tactic| wtm_at "x") => `(tactic| with_reducible first
  | (apply w_taken; (· wtm_at "lk"); (· wtm_at "nn"); (· wtm_at "nn")) | (apply w_eqD; (· wtm_at "vl"); (· wtm_at "vl"); (· wtm_at "pl"); (· wtm_at "pl")) | (apply w_neD; (· wtm_at "vl"); (· wtm_at "vl"); (· wtm_at "pl"); (· wtm_at "pl"))
  | (refine vR_frz (by assumption) ?_) | refine frz_let ?_)
local macro_rules | `(tactic| wtm_at "w") => `(tactic| repeat (first | wtm_at "1" | wtm_at "x"))
theorem vR_bl {Q : DK} {G : Gp} {b c : Bool} (q : Q (.bl c) G) (h : b = c) : vR Q (.bl b) G := by
  rw [h]
  exact vR0 q
theorem ls_at {ls : List Mg.Lk} {k : Int} {l : Mg.Lk} (h : Mg.getI ls k = some l) : atI (ls.map Mg.Lk.d) k = some l.d := by
  unfold Mg.getI at h
  split at h
  · rename_i h0
    have hl : k.toNat < ls.length := by
      rcases Nat.lt_or_ge k.toNat ls.length with z | z
      · exact z
      · rw [List.getElem?_eq_none z] at h
        cases h
    rw [atI_pos h0 (by rw [List.length_map]; omega), List.getElem?_map, h]
    rfl
  · cases h
theorem getI_nat {ls : List Mg.Lk} {i : Nat} (h : i < ls.length) : Mg.getI ls (i : Int) = some ls[i] := by
  unfold Mg.getI
  rw [if_pos (by omega), Int.toNat_natCast, List.getElem?_eq_getElem h]
theorem r_is_door {K : PySem.W.Frag} : Rd 3 (b_is_door K) (sp_is_door K) := by
  rintro _ G Q ⟨n, b, d, rfl, q⟩
  wtm_at "st"
  refine vN0 ?_
  unfold b_is_door
  wtm_at "w"
  refine w_ite (fun c => ?_) (fun c => ?_) <;> wtm_at "w"
  · refine w_ite (fun c2 => ?_) (fun c2 => ?_) <;> wtm_at "w"
    · refine w_ite (fun c3 => ?_) (fun c3 => ?_) <;> wtm_at "w"
      · exact vR_bl q (by grind)
      · exact vR_bl q (by grind)
    · exact vR_bl q (by grind)
  · refine w_iteF rfl ?_
    wtm_at "w"
    exact vR_bl q (by grind)
local macro_rules | `(tactic| wtm_at "x") => `(tactic| with_reducible (refine ⟨_, _, _, rfl, ?_⟩))
theorem w_is_door {K : PySem.W.Frag} {n b d : Int} {G : Gp} {Q : DK} (h : (0 ≤ b ∧ b < n) ∧ 0 ≤ d ∧ d < 4) (q : Q (.bl true) G) : sp_is_door K [.int n, .int b, .int d] G Q := ⟨n, b, d, rfl, by rw [decide_eq_true h]; exact q⟩
theorem r_need_web {K : PySem.W.Frag} : Rd 12 (b_need_web K) (sp_need_web K) := by
  rintro _ G Q ⟨n, ls, rfl, hw, q⟩
  wtm_at "st"
  refine vN0 ?_
  unfold b_need_web
  wtm_at "w"
  have hn1 := hw.n1
  have hn6 := hw.n6
  have hl10 := hw.len
  refine w_iteT (decide_eq_true hn1) ?_
  wtm_at "w"
  refine w_iteF (by simpa using hn6) ?_
  wtm_at "w"
  intro p hp
  wtm_at "w"
  rw [List.length_map]
  wtm_at "w"
  have hj : ((ls.length : Nat) : Int).toNat = ls.length := Int.toNat_natCast _
  rw [hj]
  refine for_st (fun i a => a = i) (fun _ => [some (webD n ls), some (.int n), some (lsD ls), some (.ref p), none, none, none, none, none, none, none, none]) (fun i => ud G p (.sm (.lst ((endsL (ls.take i)).map P2)))) 0 rfl rfl rfl (fun _ _ _ _ => trivial) ?_ ?_
  · rintro _ d i hi rfl rfl
    have hm : ls[i] ∈ ls := List.getElem_mem hi
    obtain ⟨k1, k2, k3, k4, k5, k6, k7, k8, k9⟩ := hw.ok _ hm
    rw [Int.zero_add]
    wtm_at "w"
    refine w_ixT (ls_at (getI_nat hi)) ?_
    have hends : endsL (ls.take (i + 1)) = endsL (ls.take i) ++ [ls[i].e1, ls[i].e2] := by
      rw [List.take_succ, List.getElem?_eq_getElem hi]
      exact endsL_snoc
    have hnd : (endsL (ls.take (i + 1))).Nodup := (endsL_sub (List.take_sublist _ _)).nodup hw.nd
    rw [hends, List.nodup_append] at hnd
    have hlen : (endsL (ls.take i)).length ≤ 20 := by
      have : ∀ ms : List Mg.Lk, (endsL ms).length = 2 * ms.length := fun ms => by
        induction ms with
        | nil => rfl
        | cons m ms ih => simp [endsL] at ih ⊢; omega
      rw [this, List.length_take]
      omega
    generalize ls[i] = l at *
    wtm_at "w"
    intro t ht
    have htp : t ≠ p := fun z => by rw [z, ud_same] at ht; cases ht
    wtm_at "w"
    refine w_iteT (decide_eq_true (by omega)) ?_
    wtm_at "w"
    refine w_iteT (by simpa using k1) ?_
    wtm_at "w"
    refine w_is_door ⟨⟨k2, k3⟩, k6, k7⟩ ?_
    wtm_at "w"
    refine w_iteT rfl ?_
    wtm_at "w"
    refine w_is_door ⟨⟨k4, k5⟩, k8, k9⟩ ?_
    wtm_at "w"
    refine w_iteF rfl ?_
    wtm_at "w"
    refine lc_pure (fun _ => none) (by simp) (fun q acc hq => ?_) ?_ ?_
    · wtm_at "gl"
    · rintro j d q acc N M hj hit hq hN hM
      have hqt : p ≠ q := fun z => by rw [← z, ud_ne (Ne.symm htp), ud_same] at hq; cases hq
      wtm_at "w"
      have hd : d = P2 l.e1 ∨ d = P2 l.e2 := by
        have := List.mem_of_getElem? hit
        simpa [Mg.Lk.e1, Mg.Lk.e2] using this
      refine w_inD (ds := (endsL (ls.take i)).map P2) (by wtm_at "gl") (by rcases hd with rfl | rfl <;> rfl) (all_P2 _) fun c hc => ?_
      wtm_at "w"
      refine w_iteF ?_ (hM rfl)
      rw [bx_f]
      have hnot : d ∉ (endsL (ls.take i)).map P2 := by
        rcases hd with rfl | rfl
        · rw [mem_P2]
          exact fun z => hnd.2.2 _ z l.e1 (by simp) rfl
        · rw [mem_P2]
          exact fun z => hnd.2.2 _ z l.e2 (by simp) rfl
      cases c with
      | false => rfl
      | true => exact absurd (hc.mp rfl) hnot
    · intro q hq
      wtm_at "w"
      have e0 : List.filterMap (fun (_ : Nat) => (none : Option D)) (List.range [D.tup [D.int l.a, D.int l.x], D.tup [D.int l.b, D.int l.y]].length) = [] := rfl
      rw [e0]
      wtm_at "w"
      intro b hb
      have hbt : b = true := hb.mpr rfl
      subst hbt
      wtm_at "w"
      refine w_iteF rfl ?_
      wtm_at "w"
      refine w_st (i + 1) rfl (.keep (.keep (.keep (.keep (.drop (.drop (.drop (.drop (.drop (.drop (.drop (.drop .refl)))))))))))) ?_
      rw [hends, List.map_append]
      intro a x ha
      have hat : a ≠ t := fun z => by
        rw [z, ud_ne htp] at ha
        rw [ud_ne htp, ha] at ht
        cases ht
      by_cases hap : a = p
      · rw [hap, ud_same] at ha ⊢
        exact ha
      · rw [ud_ne hap] at ha ⊢
        rw [ud_ne hat, ud_ne hap]
        exact ha
  · rintro _ rfl
    wtm_at "w"
    exact vR_sub (sub_new hp sub_refl) q
end Dg
namespace Dg
open PySem PySem.Spec L2
local macro_rules | `(tactic| wtm_at "ne") => `(tactic| first | assumption | (apply Ne.symm; assumption) | (grind [ud, er]))
local macro_rules | `(tactic| wtm_at "lk") => `(tactic| first | (with_reducible assumption) | (with_reducible exact ud_same) | ((with_reducible refine (ud_ne (by wtm_at "ne")).trans ?_); wtm_at "lk"))
local macro_rules | `(tactic| wtm_at "gl") => `(tactic| first | (with_reducible assumption) | (with_reducible exact lst_ref (by wtm_at "lk")) | (with_reducible exact lstOf_new (by assumption) (by assumption)) | (with_unfolding_all exact rfl))
local macro_rules | `(tactic| wtm_at "vl") => `(tactic| first | (with_reducible exact val_ref (by wtm_at "lk")) | (with_unfolding_all exact rfl))
local macro_rules | `(tactic| wtm_at "dk") => `(tactic| with_reducible first | exact dK_own (by wtm_at "lk") | exact dK_lk (by wtm_at "lk") | exact dT_own (by wtm_at "lk"))
local macro_rules | `(tactic| wtm_at "pl") => `(tactic| with_unfolding_all first | exact rfl | exact all_int _ | exact all_P2 _ | assumption)
local macro_rules | `(tactic| wtm_at "nn") => `(tactic| first | omega | decide | (simp only [List.length_cons, List.length_nil, List.length_map, List.length_append]; omega) | grind)
local macro_rules | `(tactic| wtm_at "st") => `(tactic| (simp only [stD, List.map_cons, List.map_nil, List.length_cons, List.length_nil, List.replicate, Nat.reduceAdd, Nat.reduceSub, List.cons_append, List.nil_append]))
local macro_rules | `(tactic| wtm_at "1") => `(tactic| with_reducible first
  | refine w_seq ?_ | refine w_asgN ?_ | refine w_asgS ?_ | refine w_asgT ?_ | refine w_ret ?_ | refine w_drop ?_ | refine w_ifS ?_ | refine w_test ?_ | refine w_next ?_
  | refine w_nx ?_ | refine w_nx0 ?_ | refine w_rt ?_ | refine w_bk ?_ | refine w_ct ?_
  | refine w_bl2 ?_ | refine w_and ?_ | refine w_or ?_ | refine w_not ?_ | refine w_andV ?_ | refine w_orV ?_ | refine w_notV ?_ | refine w_if ?_
  | (apply w_var; (· with_unfolding_all rfl)) | refine w_c ?_ | refine w_op ?_ | refine w_chain ?_ | refine w_nil ?_ | refine w_cons ?_ | refine w_tup ?_ | refine w_lst ?_
  | (apply w_len; (· wtm_at "nn")) | refine w_call ?_ | refine w_cb ?_ | refine w_isN ?_ | refine w_notN ?_ | refine w_fz ?_
  | refine w_add ?_ | refine w_sub ?_ | refine w_lt ?_ | refine w_le ?_ | refine w_gt ?_ | refine w_ge ?_ | (apply w_mod; (· wtm_at "nn")) | (apply w_div; (· wtm_at "nn"); (· wtm_at "nn"))
  | (apply w_eq; (· with_unfolding_all rfl)) | (apply w_ne; (· with_unfolding_all rfl))
  | (apply w_ixT; (· with_unfolding_all rfl)) | (apply w_ixL; (· wtm_at "gl"); (· with_unfolding_all rfl))
  | refine w_lenT ?_ | (apply w_lenL; (· wtm_at "gl")) | refine w_min2 ?_ | refine w_max2 ?_ | refine w_intB ?_ | (apply w_tupleL; (· wtm_at "gl"))
  | refine w_bm ?_ | refine w_bm0 ?_ | (apply w_ty; (· wtm_at "gl"))
  | (apply w_setL; (· wtm_at "lk"); (· with_unfolding_all rfl)) | (apply w_append; (· wtm_at "lk"); (· wtm_at "nn")) | (apply w_extend; (· wtm_at "lk"); (· wtm_at "gl"); (· wtm_at "nn"))
  | refine w_hcons ?_ | refine w_hnil ?_ | refine w_hname ?_ | (apply w_exT; (· with_unfolding_all rfl))
  | refine w_lcR1 ?_ | refine w_lcL ?_ | refine w_lcT ?_ | refine w_forR1 ?_ | refine w_forR2 ?_ | refine w_forL ?_ | refine w_forT ?_ | refine w_yes ?_ | refine w_cnm ?_ | (apply w_ctp; (· with_unfolding_all rfl))
  | (apply w_exL; (· wtm_at "gl")) | refine w_exTu ?_ | (apply w_exI; (· wtm_at "nn")) | (apply w_exI2; (· wtm_at "nn")) | refine w_exII ?_
  | refine w_disp ?_ | refine w_pnil ?_ | refine w_pcons ?_ | (apply w_dispE; (· wtm_at "lk"); (· with_unfolding_all rfl); (· wtm_at "nn"))
  | refine w_dget ?_ | refine w_din ?_ | refine w_dget1 ?_ | refine w_dput ?_ | refine w_dpop1 ?_ | refine w_lenSet ?_ | refine w_listRng ?_ | refine w_notInRng ?_
  | (apply w_inK; (· wtm_at "dk"); (· with_unfolding_all rfl)) | (apply w_inT; (· wtm_at "dk"); (· with_unfolding_all rfl))
  | (apply w_isK; (· wtm_at "dk")) | (apply w_isT; (· wtm_at "dk"))
  | (apply w_putK; (· wtm_at "lk"); (· with_unfolding_all rfl); (· wtm_at "nn")) | (apply w_putT; (· wtm_at "lk"); (· with_unfolding_all rfl); (· wtm_at "nn")))
local macro_rules | `(tactic| wtm_at "x") => `(tactic| with_reducible first
  | (apply w_taken; (· wtm_at "lk"); (· wtm_at "nn"); (· wtm_at "nn")) | (apply w_eqD; (· wtm_at "vl"); (· wtm_at "vl"); (· wtm_at "pl"); (· wtm_at "pl")) | (apply w_neD; (· wtm_at "vl"); (· wtm_at "vl"); (· wtm_at "pl"); (· wtm_at "pl"))
  | (refine vR_frz (by assumption) ?_) | refine frz_let ?_)
local macro_rules | `(tactic| wtm_at "w") => `(tactic| repeat (first | wtm_at "1" | wtm_at "x"))
theorem ints_at {ns : List Int} {i : Nat} {d : D} (h : (ns.map D.int)[i]? = some d) : ∃ hi : i < ns.length, d = .int ns[i] := by
  have hi : i < ns.length := by
    rcases Nat.lt_or_ge i ns.length with z | z
    · exact z
    · rw [List.getElem?_eq_none (by rw [List.length_map]; exact z)] at h
      cases h
  refine ⟨hi, ?_⟩
  rw [List.getElem?_map, List.getElem?_eq_getElem hi] at h
  exact (Option.some.inj h).symm
end Dg
namespace Dg
open PySem PySem.Spec L2
local macro_rules | `(tactic| wtm_at "ne") => `(tactic| first | assumption | (apply Ne.symm; assumption) | (grind [ud, er]))
local macro_rules | `(tactic| wtm_at "lk") => `(tactic| first | (with_reducible assumption) | (with_reducible exact ud_same) | ((with_reducible refine (ud_ne (by wtm_at "ne")).trans ?_); wtm_at "lk"))
local macro_rules | `(tactic| wtm_at "gl") => `(tactic| first | (with_reducible assumption) | (with_reducible exact lst_ref (by wtm_at "lk")) | (with_reducible exact lstOf_new (by assumption) (by assumption)) | (with_unfolding_all exact rfl))
local macro_rules | `(tactic| wtm_at "vl") => `(tactic| first | (with_reducible exact val_ref (by wtm_at "lk")) | (with_unfolding_all exact rfl))
local macro_rules | `(tactic| wtm_at "dk") => `(tactic| with_reducible first | exact dK_own (by wtm_at "lk") | exact dK_lk (by wtm_at "lk") | exact dT_own (by wtm_at "lk"))
local macro_rules | `(tactic| wtm_at "pl") => `(tactic| with_unfolding_all first | exact rfl | exact all_int _ | exact all_P2 _ | assumption)
local macro_rules | `(tactic| wtm_at "nn") => `(tactic| first | omega | decide | (simp only [List.length_cons, List.length_nil, List.length_map, List.length_append]; omega) | grind)
local macro_rules | `(tactic| wtm_at "st") => `(tactic| (simp only [stD, List.map_cons, List.map_nil, List.length_cons, List.length_nil, List.replicate, Nat.reduceAdd, Nat.reduceSub, List.cons_append, List.nil_append]))
local macro_rules | `(tactic| wtm_at "1") => `(tactic| with_reducible first
  | refine w_seq ?_ | refine w_asgN ?_ | refine w_asgS ?_ | refine w_asgT ?_ | refine w_ret ?_ | refine w_drop ?_ | refine w_ifS ?_ | refine w_test ?_ | refine w_next ?_
  | refine w_nx ?_ | refine w_nx0 ?_ | refine w_rt ?_ | refine w_bk ?_ | refine w_ct ?_
  | refine w_bl2 ?_ | refine w_and ?_ | refine w_or ?_ | refine w_not ?_ | refine w_andV ?_ | refine w_orV ?_ | refine w_notV ?_ | refine w_if ?_
  | (apply w_var; (· with_unfolding_all rfl)) | refine w_c ?_ | refine w_op ?_ | refine w_chain ?_ | refine w_nil ?_ | refine w_cons ?_ | refine w_tup ?_ | refine w_lst ?_
  | (apply w_len; (· wtm_at "nn")) | refine w_call ?_ | refine w_cb ?_ | refine w_isN ?_ | refine w_notN ?_ | refine w_fz ?_
  | refine w_add ?_ | refine w_sub ?_ | refine w_lt ?_ | refine w_le ?_ | refine w_gt ?_ | refine w_ge ?_ | (apply w_mod; (· wtm_at "nn")) | (apply w_div; (· wtm_at "nn"); (· wtm_at "nn"))
  | (apply w_eq; (· with_unfolding_all rfl)) | (apply w_ne; (· with_unfolding_all rfl))
  | (apply w_ixT; (· with_unfolding_all rfl)) | (apply w_ixL; (· wtm_at "gl"); (· with_unfolding_all rfl))
  | refine w_lenT ?_ | (apply w_lenL; (· wtm_at "gl")) | refine w_min2 ?_ | refine w_max2 ?_ | refine w_intB ?_ | (apply w_tupleL; (· wtm_at "gl"))
  | refine w_bm ?_ | refine w_bm0 ?_ | (apply w_ty; (· wtm_at "gl"))
  | (apply w_setL; (· wtm_at "lk"); (· with_unfolding_all rfl)) | (apply w_append; (· wtm_at "lk"); (· wtm_at "nn")) | (apply w_extend; (· wtm_at "lk"); (· wtm_at "gl"); (· wtm_at "nn"))
  | refine w_hcons ?_ | refine w_hnil ?_ | refine w_hname ?_ | (apply w_htup; (· with_unfolding_all rfl)) | (apply w_exT; (· with_unfolding_all rfl))
  | refine w_lcR1 ?_ | refine w_lcL ?_ | refine w_lcT ?_ | refine w_forR1 ?_ | refine w_forR2 ?_ | refine w_forL ?_ | refine w_forT ?_ | refine w_yes ?_ | refine w_cnm ?_ | (apply w_ctp; (· with_unfolding_all rfl))
  | (apply w_exL; (· wtm_at "gl")) | refine w_exTu ?_ | (apply w_exI; (· wtm_at "nn")) | (apply w_exI2; (· wtm_at "nn")) | refine w_exII ?_
  | refine w_disp ?_ | refine w_pnil ?_ | refine w_pcons ?_ | (apply w_dispE; (· wtm_at "lk"); (· with_unfolding_all rfl); (· wtm_at "nn"))
  | refine w_dget ?_ | refine w_din ?_ | refine w_dget1 ?_ | refine w_dput ?_ | refine w_dpop1 ?_ | refine w_lenSet ?_ | refine w_listRng ?_ | refine w_notInRng ?_
  | (apply w_inK; (· wtm_at "dk"); (· with_unfolding_all rfl)) | (apply w_inT; (· wtm_at "dk"); (· with_unfolding_all rfl))
  | (apply w_isK; (· wtm_at "dk")) | (apply w_isT; (· wtm_at "dk"))
  | (apply w_putK; (· wtm_at "lk"); (· with_unfolding_all rfl); (· wtm_at "nn")) | (apply w_putT; (· wtm_at "lk"); (· with_unfolding_all rfl); (· wtm_at "nn")))
local macro_rules | `(tactic| wtm_at "x") => `(tactic| with_reducible first
  | (apply w_taken; (· wtm_at "lk"); (· wtm_at "nn"); (· wtm_at "nn")) | (apply w_eqD; (· wtm_at "vl"); (· wtm_at "vl"); (· wtm_at "pl"); (· wtm_at "pl")) | (apply w_neD; (· wtm_at "vl"); (· wtm_at "vl"); (· wtm_at "pl"); (· wtm_at "pl"))
  | (refine vR_frz (by assumption) ?_) | refine frz_let ?_)
local macro_rules | `(tactic| wtm_at "w") => `(tactic| repeat (first | wtm_at "1" | wtm_at "x"))
end Dg
namespace Dg
open PySem PySem.Spec L2
local macro_rules | `(tactic| wtm_at "ne") => `(tactic| first | assumption | (apply Ne.symm; assumption) | (grind [ud, er]))
local macro_rules | `(tactic| wtm_at "lk") => `(tactic| first | (with_reducible assumption) | (with_reducible exact ud_same) | ((with_reducible refine (ud_ne (by wtm_at "ne")).trans ?_); wtm_at "lk"))
local macro_rules | `(tactic| wtm_at "gl") => `(tactic| first | (with_reducible assumption) | (with_reducible exact lst_ref (by wtm_at "lk")) | (with_reducible exact lstOf_new (by assumption) (by assumption)) | (with_unfolding_all exact rfl))
local macro_rules | `(tactic| wtm_at "vl") => `(tactic| first | (with_reducible exact val_ref (by wtm_at "lk")) | (with_unfolding_all exact rfl))
local macro_rules | `(tactic| wtm_at "dk") => `(tactic| with_reducible first | exact dK_own (by wtm_at "lk") | exact dK_lk (by wtm_at "lk") | exact dT_own (by wtm_at "lk"))
local macro_rules | `(tactic| wtm_at "pl") => `(tactic| with_unfolding_all first | exact rfl | exact all_int _ | exact all_P2 _ | assumption)
local macro_rules | `(tactic| wtm_at "nn") => `(tactic| first | omega | decide | (simp only [List.length_cons, List.length_nil, List.length_map, List.length_append]; omega) | grind)
local macro_rules | `(tactic| wtm_at "st") => `(tactic| (simp only [stD, List.map_cons, List.map_nil, List.length_cons, List.length_nil, List.replicate, Nat.reduceAdd, Nat.reduceSub, List.cons_append, List.nil_append]))
local macro_rules | `(tactic| wtm_at "1") => `(tactic| with_reducible first
  | refine w_seq ?_ | refine w_asgN ?_ | refine w_asgS ?_ | refine w_asgT ?_ | refine w_ret ?_ | refine w_drop ?_ | refine w_ifS ?_ | refine w_test ?_ | refine w_next ?_
  | refine w_nx ?_ | refine w_nx0 ?_ | refine w_rt ?_ | refine w_bk ?_ | refine w_ct ?_
  | refine w_bl2 ?_ | refine w_and ?_ | refine w_or ?_ | refine w_not ?_ | refine w_andV ?_ | refine w_orV ?_ | refine w_notV ?_ | refine w_if ?_
  | (apply w_var; (· with_unfolding_all rfl)) | refine w_c ?_ | refine w_op ?_ | refine w_chain ?_ | refine w_nil ?_ | refine w_cons ?_ | refine w_tup ?_ | refine w_lst ?_
  | (apply w_len; (· wtm_at "nn")) | refine w_call ?_ | refine w_cb ?_ | refine w_isN ?_ | refine w_notN ?_ | refine w_fz ?_
  | refine w_add ?_ | refine w_sub ?_ | refine w_lt ?_ | refine w_le ?_ | refine w_gt ?_ | refine w_ge ?_ | (apply w_mod; (· wtm_at "nn")) | (apply w_div; (· wtm_at "nn"); (· wtm_at "nn"))
  | (apply w_eq; (· with_unfolding_all rfl)) | (apply w_ne; (· with_unfolding_all rfl))
  | (apply w_ixT; (· with_unfolding_all rfl)) | (apply w_ixL; (· wtm_at "gl"); (· with_unfolding_all rfl))
  | refine w_lenT ?_ | (apply w_lenL; (· wtm_at "gl")) | refine w_min2 ?_ | refine w_max2 ?_ | refine w_intB ?_ | (apply w_tupleL; (· wtm_at "gl"))
  | refine w_bm ?_ | refine w_bm0 ?_ | (apply w_ty; (· wtm_at "gl"))
  | (apply w_setL; (· wtm_at "lk"); (· with_unfolding_all rfl)) | (apply w_append; (· wtm_at "lk"); (· wtm_at "nn")) | (apply w_extend; (· wtm_at "lk"); (· wtm_at "gl"); (· wtm_at "nn"))
  | refine w_hcons ?_ | refine w_hnil ?_ | refine w_hname ?_ | (apply w_htup; (· with_unfolding_all rfl)) | (apply w_exT; (· with_unfolding_all rfl))
  | refine w_lcR1 ?_ | refine w_lcL ?_ | refine w_lcT ?_ | refine w_forR1 ?_ | refine w_forR2 ?_ | refine w_forL ?_ | refine w_forT ?_ | refine w_yes ?_ | refine w_cnm ?_ | (apply w_ctp; (· with_unfolding_all rfl))
  | (apply w_exL; (· wtm_at "gl")) | refine w_exTu ?_ | (apply w_exI; (· wtm_at "nn")) | (apply w_exI2; (· wtm_at "nn")) | refine w_exII ?_
  | refine w_disp ?_ | refine w_pnil ?_ | refine w_pcons ?_ | (apply w_dispE; (· wtm_at "lk"); (· with_unfolding_all rfl); (· wtm_at "nn"))
  | refine w_dget ?_ | refine w_din ?_ | refine w_dget1 ?_ | refine w_dput ?_ | refine w_dpop1 ?_ | refine w_lenSet ?_ | refine w_listRng ?_ | refine w_notInRng ?_
  | (apply w_inK; (· wtm_at "dk"); (· with_unfolding_all rfl)) | (apply w_inT; (· wtm_at "dk"); (· with_unfolding_all rfl))
  | (apply w_isK; (· wtm_at "dk")) | (apply w_isT; (· wtm_at "dk"))
  | (apply w_putK; (· wtm_at "lk"); (· with_unfolding_all rfl); (· wtm_at "nn")) | (apply w_putT; (· wtm_at "lk"); (· with_unfolding_all rfl); (· wtm_at "nn")))
local macro_rules | `(tactic| wtm_at "x") => `(tactic| with_reducible first
  | (apply w_taken; (· wtm_at "lk"); (· wtm_at "nn"); (· wtm_at "nn")) | (apply w_eqD; (· wtm_at "vl"); (· wtm_at "vl"); (· wtm_at "pl"); (· wtm_at "pl")) | (apply w_neD; (· wtm_at "vl"); (· wtm_at "vl"); (· wtm_at "pl"); (· wtm_at "pl"))
  | (refine vR_frz (by assumption) ?_) | refine frz_let ?_)
local macro_rules | `(tactic| wtm_at "w") => `(tactic| repeat (first | wtm_at "1" | wtm_at "x"))
theorem WebOk.ls {n : Int} {ls : List Mg.Lk} (h : WebOk n ls) : Mg.LsOk (n.toNat : Int) ls := fun l hl => by
  have := h.ok l hl
  have := h.n1
  obtain ⟨k1, k2, k3, k4, k5, _, _, _, _⟩ := h.ok l hl
  omega
theorem w_need_web {K : PySem.W.Frag} {n : Int} {ls : List Mg.Lk} {G : Gp} {Q : DK} (hw : WebOk n ls) (q : Q .non G) : sp_need_web K [webD n ls] G Q := ⟨n, ls, rfl, hw, q⟩
end Dg
namespace Dg
open PySem PySem.Spec L2
local macro_rules | `(tactic| wtm_at "ne") => `(tactic| first | assumption | (apply Ne.symm; assumption) | (grind [ud, er]))
local macro_rules | `(tactic| wtm_at "lk") => `(tactic| first | (with_reducible assumption) | (with_reducible exact ud_same) | ((with_reducible refine (ud_ne (by wtm_at "ne")).trans ?_); wtm_at "lk"))
local macro_rules | `(tactic| wtm_at "gl") => `(tactic| first | (with_reducible assumption) | (with_reducible exact lst_ref (by wtm_at "lk")) | (with_reducible exact lstOf_new (by assumption) (by assumption)) | (with_unfolding_all exact rfl))
local macro_rules | `(tactic| wtm_at "vl") => `(tactic| first | (with_reducible exact val_ref (by wtm_at "lk")) | (with_unfolding_all exact rfl))
local macro_rules | `(tactic| wtm_at "dk") => `(tactic| with_reducible first | exact dK_own (by wtm_at "lk") | exact dK_lk (by wtm_at "lk") | exact dT_own (by wtm_at "lk"))
local macro_rules | `(tactic| wtm_at "pl") => `(tactic| with_unfolding_all first | exact rfl | exact all_int _ | exact all_P2 _ | assumption)
local macro_rules | `(tactic| wtm_at "nn") => `(tactic| first | omega | decide | (simp only [List.length_cons, List.length_nil, List.length_map, List.length_append]; omega) | grind)
local macro_rules | `(tactic| wtm_at "st") => `(tactic| (simp only [stD, List.map_cons, List.map_nil, List.length_cons, List.length_nil, List.replicate, Nat.reduceAdd, Nat.reduceSub, List.cons_append, List.nil_append]))
local macro_rules | `(tactic| wtm_at "1") => `(tactic| with_reducible first
  | refine w_seq ?_ | refine w_asgN ?_ | refine w_asgS ?_ | refine w_asgT ?_ | refine w_ret ?_ | refine w_drop ?_ | refine w_ifS ?_ | refine w_test ?_ | refine w_next ?_
  | refine w_nx ?_ | refine w_nx0 ?_ | refine w_rt ?_ | refine w_bk ?_ | refine w_ct ?_
  | refine w_bl2 ?_ | refine w_and ?_ | refine w_or ?_ | refine w_not ?_ | refine w_andV ?_ | refine w_orV ?_ | refine w_notV ?_ | refine w_if ?_
  | (apply w_var; (· with_unfolding_all rfl)) | refine w_c ?_ | refine w_op ?_ | refine w_chain ?_ | refine w_nil ?_ | refine w_cons ?_ | refine w_tup ?_ | refine w_lst ?_
  | (apply w_len; (· wtm_at "nn")) | refine w_call ?_ | refine w_cb ?_ | refine w_isN ?_ | refine w_notN ?_ | refine w_fz ?_
  | refine w_add ?_ | refine w_sub ?_ | refine w_lt ?_ | refine w_le ?_ | refine w_gt ?_ | refine w_ge ?_ | (apply w_mod; (· wtm_at "nn")) | (apply w_div; (· wtm_at "nn"); (· wtm_at "nn"))
  | (apply w_eq; (· with_unfolding_all rfl)) | (apply w_ne; (· with_unfolding_all rfl))
  | (apply w_ixT; (· with_unfolding_all rfl)) | (apply w_ixL; (· wtm_at "gl"); (· with_unfolding_all rfl))
  | refine w_lenT ?_ | (apply w_lenL; (· wtm_at "gl")) | refine w_min2 ?_ | refine w_max2 ?_ | refine w_intB ?_ | (apply w_tupleL; (· wtm_at "gl"))
  | refine w_bm ?_ | refine w_bm0 ?_ | (apply w_ty; (· wtm_at "gl"))
  | (apply w_setL; (· wtm_at "lk"); (· with_unfolding_all rfl)) | (apply w_append; (· wtm_at "lk"); (· wtm_at "nn")) | (apply w_extend; (· wtm_at "lk"); (· wtm_at "gl"); (· wtm_at "nn"))
  | refine w_hcons ?_ | refine w_hnil ?_ | refine w_hname ?_ | (apply w_htup; (· with_unfolding_all rfl)) | (apply w_exT; (· with_unfolding_all rfl))
  | refine w_lcR1 ?_ | refine w_lcL ?_ | refine w_lcT ?_ | refine w_forR1 ?_ | refine w_forR2 ?_ | refine w_forL ?_ | refine w_forT ?_ | refine w_yes ?_ | refine w_cnm ?_ | (apply w_ctp; (· with_unfolding_all rfl))
  | (apply w_exL; (· wtm_at "gl")) | refine w_exTu ?_ | (apply w_exI; (· wtm_at "nn")) | (apply w_exI2; (· wtm_at "nn")) | refine w_exII ?_
  | refine w_fld ?_ | refine w_fldS ?_ | refine w_meth ?_ | refine w_make ?_ | (apply w_fldE; (· wtm_at "lk"); (· with_unfolding_all rfl)) | (apply w_fldSE; (· wtm_at "lk"); (· wtm_at "nn")) | (apply w_lenD; (· wtm_at "lk"))
  | refine w_disp ?_ | refine w_pnil ?_ | refine w_pcons ?_ | (apply w_dispE; (· wtm_at "lk"); (· with_unfolding_all rfl); (· wtm_at "nn"))
  | refine w_dget ?_ | refine w_din ?_ | refine w_dget1 ?_ | refine w_dput ?_ | refine w_dpop1 ?_ | refine w_lenSet ?_ | refine w_listRng ?_ | refine w_notInRng ?_
  | (apply w_inK; (· wtm_at "dk"); (· with_unfolding_all rfl)) | (apply w_inT; (· wtm_at "dk"); (· with_unfolding_all exact keyT_lit))
  | (apply w_isK; (· wtm_at "dk")) | (apply w_isT; (· wtm_at "dk"))
  | (apply w_putK; (· wtm_at "lk"); (· with_unfolding_all rfl); (· wtm_at "nn")) | (apply w_putT; (· wtm_at "lk"); (· with_unfolding_all exact keyT_lit); (· wtm_at "nn")))
local macro_rules | `(tactic| wtm_at "bb") => `(tactic| (simp only [isN, Bool.not_true, Bool.not_false, Bool.or_true, Bool.true_or, Bool.or_false, Bool.false_or, Bool.xor_true, Bool.xor_false]; done))
local macro_rules | `(tactic| wtm_at "kt") => `(tactic| with_reducible first | exact kb_tu_tu | exact kb_tu_li | exact kb_tu_bo | exact kb_tu_st | exact kb_tu_in | exact kb_li_tu | exact kb_li_li | exact kb_li_bo | exact kb_li_st | exact kb_li_in | exact kb_No_tu | exact kb_No_li | exact kb_No_bo | exact kb_No_st | exact kb_No_in | exact kb_bo_tu | exact kb_bo_li | exact kb_bo_bo | exact kb_bo_st | exact kb_bo_in | exact kb_in_tu | exact kb_in_li | exact kb_in_bo | exact kb_in_st | exact kb_in_in | exact kb_st_tu | exact kb_st_li | exact kb_st_bo | exact kb_st_st | exact kb_st_in)
local macro_rules | `(tactic| wtm_at "ty") => `(tactic| first | assumption | exact ty_ref (by wtm_at "lk") | (with_unfolding_all exact rfl))
local macro_rules | `(tactic| wtm_at "x") => `(tactic| with_reducible first
  | (apply w_taken; (· wtm_at "lk"); (· wtm_at "nn"); (· wtm_at "nn")) | (apply w_eqD; (· wtm_at "vl"); (· wtm_at "vl"); (· wtm_at "pl"); (· wtm_at "pl")) | (apply w_neD; (· wtm_at "vl"); (· wtm_at "vl"); (· wtm_at "pl"); (· wtm_at "pl"))
  | (apply vR_row; (· assumption)) | (refine vR_frz (by assumption) ?_) | refine frz_let ?_ | refine w_isi ?_ | refine w_isi2 ?_ | (apply w_isiE; (· wtm_at "ty"); (· wtm_at "kt")) | (apply w_isiE2; (· wtm_at "ty"); (· wtm_at "kt"); (· wtm_at "kt"))
  | refine w_iteT rfl ?_ | refine w_iteF rfl ?_ | (apply w_iteT; (· wtm_at "bb")) | (apply w_iteF; (· wtm_at "bb")))
local macro_rules | `(tactic| wtm_at "w") => `(tactic| repeat (first | wtm_at "1" | wtm_at "x"))
theorem insF_web {t : Nt} {st : Mg.NS} : (insF t st).lookup ("web" : Str) = some (webD st.n st.ls) := rfl
theorem insF_ends {t : Nt} {st : Mg.NS} : (insF t st).lookup ("ends" : Str) = some (.ref t.e) := rfl
theorem r_N_need_place {K : PySem.W.Frag} : Rd 3 (b_N_need_place K) (sp_N_need_place K) := by
  rintro _ G Q ⟨a, h, p, dx, fs, n, ls, e, rfl, ha, hw, he, hge, hp, q⟩
  wtm_at "st"
  refine vN0 ?_
  unfold b_N_need_place
  wtm_at "w"
  refine w_fldE ha hw ?_
  wtm_at "w"
  refine w_is_door ⟨⟨hp.b0, hp.bn⟩, hp.d0, hp.d4⟩ ?_
  wtm_at "w"
  refine w_fldE ha he ?_
  wtm_at "w"
  rw [valD_ends, show Mg.eGet ls (p.1, p.2) = none from hp.free]
  wtm_at "w"
  exact vR0 q
theorem r_N_need_time {K : PySem.W.Frag} : Rd 2 (b_N_need_time K) (sp_N_need_time K) := by
  rintro _ G Q ⟨a, st, t, rfl, hv, h0, h1, q⟩ F H σ is hg
  obtain ⟨th, G1, rfl, ho, hg1, hn, hout, fin⟩ := netV_view hv hg
  refine ⟨F, _, G1, Ext.refl F H, is, hg1, ?_⟩
  wtm_at "st"
  unfold b_N_need_time
  have ga := ho.ga
  wtm_at "w"
  refine w_iteT (decide_eq_true h0) ?_
  wtm_at "w"
  refine w_iteF (by simpa using h1) ?_
  wtm_at "w"
  exact fin Q _ G1 G (fun _ _ => rfl) (fun b x hb hx => by rw [hout b hb]; exact hx) (fun _ _ => rfl) q
theorem r_N_need_host {K : PySem.W.Frag} : Rd 2 (b_N_need_host K) (sp_N_need_host K) := by
  rintro _ G Q ⟨a, st, h, rfl, hv, h0, h1, q⟩ F H σ is hg
  obtain ⟨th, G1, rfl, ho, hg1, hn, hout, fin⟩ := netV_view hv hg
  refine ⟨F, _, G1, Ext.refl F H, is, hg1, ?_⟩
  wtm_at "st"
  unfold b_N_need_host
  have ga := ho.ga
  have gs := ho.gs
  wtm_at "w"
  refine w_iteT (decide_eq_true h0) ?_
  wtm_at "w"
  rw [List.length_map]
  refine w_iteF (by simpa using h1) ?_
  wtm_at "w"
  exact fin Q _ G1 G (fun _ _ => rfl) (fun b x hb hx => by rw [hout b hb]; exact hx) (fun _ _ => rfl) q
theorem w_need_time {K : PySem.W.Frag} {a : Addr} {st : Mg.NS} {t : Int} {G : Gp} {Q : DK} (hv : NetV K G a st) (h0 : st.now ≤ t) (h1 : t ≤ 1000) (q : Q .non G) : sp_N_need_time K [.ref a, .int t] G Q := ⟨a, st, t, rfl, hv, h0, h1, q⟩
theorem w_need_host {K : PySem.W.Frag} {a : Addr} {st : Mg.NS} {h : Int} {G : Gp} {Q : DK} (hv : NetV K G a st) (h0 : 0 ≤ h) (h1 : h < st.spots.length) (q : Q .non G) : sp_N_need_host K [.ref a, .int h] G Q := ⟨a, st, h, rfl, hv, h0, h1, q⟩
theorem r_N_need_letter {K : PySem.W.Frag} : Rd 4 (b_N_need_letter K) (sp_N_need_letter K) := by
  rintro _ G Q ⟨a, st, t, h, to, rfl, hv, ⟨h0, h1, h2, h3, h4⟩, q⟩
  wtm_at "st"
  refine vN0 ?_
  unfold b_N_need_letter
  wtm_at "w"
  refine w_methE (netV_ins hv fun _ => rfl) ?_
  wtm_at "w"
  refine w_need_time hv h0 h1 ?_
  wtm_at "w"
  refine w_methE (netV_ins hv fun _ => rfl) ?_
  wtm_at "w"
  refine w_need_host hv h2 h3 ?_
  wtm_at "w"
  cases to with
  | none =>
    refine w_iteF rfl ?_
    wtm_at "w"
    exact vR0 q
  | some z =>
    obtain ⟨z0, z1, z2⟩ := h4 z rfl
    refine w_iteT rfl ?_
    wtm_at "w"
    refine w_methE (netV_ins hv fun _ => rfl) ?_
    wtm_at "w"
    refine w_need_host hv z0 z1 ?_
    wtm_at "w"
    intro b hb
    have hbf : b = false := by
      cases b with
      | false => rfl
      | true =>
        exact absurd (D.int.inj (hb.mp rfl)) z2
    subst hbf
    wtm_at "w"
    exact vR0 q
theorem pls_at {ps : List (Int × Int)} {i : Nat} (h : i < ps.length) : atI (ps.map P2) (i : Int) = some (P2 ps[i]) := by
  rw [atI_pos (by omega) (by rw [List.length_map]; omega), Int.toNat_natCast, List.getElem?_map, List.getElem?_eq_getElem h]
  rfl
theorem P2_inj2 {p q : Int × Int} : (D.tup [.int p.1, .int p.2] = D.tup [.int q.1, .int q.2]) ↔ p = q := ⟨fun h => P2_inj h, fun h => by rw [h]⟩
theorem r_N_hosts_at {K : PySem.W.Frag} : Rd 3 (b_N_hosts_at K) (sp_N_hosts_at K) := by
  rintro _ G Q ⟨a, st, p, rfl, hv, h8, q⟩ F H σ is hg
  obtain ⟨th, G1, rfl, ho, hg1, hn, hout, fin⟩ := netV_view hv hg
  refine ⟨F, _, G1, Ext.refl F H, is, hg1, ?_⟩
  wtm_at "st"
  unfold b_N_hosts_at
  have ga := ho.ga
  have gs := ho.gs
  wtm_at "w"
  rw [List.length_map]
  wtm_at "w"
  rw [Int.toNat_natCast]
  refine lc_pure (fun i => if st.spots[i]? = some p then some (.int (i : Int)) else none) (by omega) (fun _ _ _ => trivial) ?_ ?_
  · rintro i d z acc N M hi rfl hz hN hM
    have ho2 := ho.new (x := .sm (.lst acc)) hz
    have ga2 := ho2.ga
    have gs2 := ho2.gs
    rw [Int.zero_add]
    wtm_at "w"
    refine w_ixL (lst_ref gs2) (pls_at hi) ?_
    wtm_at "w"
    intro b hb
    rw [P2_inj2] at hb
    rw [List.getElem?_eq_getElem hi] at hN hM
    wtm_at "w"
    refine w_ite (fun h => ?_) (fun h => ?_)
    · wtm_at "w"
      exact hN _ (if_pos (by rw [hb.mp h]))
    · refine hM (if_neg fun z => ?_)
      rw [hb.mpr (Option.some.inj z)] at h
      cases h
  · intro z hz
    have e : (List.range st.spots.length).filterMap (fun (i : Nat) => if st.spots[i]? = some p then some (D.int (i : Int)) else none) = (Mg.hostsF st p).map D.int := by
      unfold Mg.hostsF
      rw [fm_if (fun i => st.spots[i]? = some p) (fun (i : Nat) => D.int (i : Int)), List.map_map]
      rfl
    rw [e]
    wtm_at "w"
    have hzn := ho.fresh hz
    refine vR_vR (vR_frz hz ?_)
    exact fin Q _ G1 G (fun _ _ => rfl) (fun b x hb hx => by rw [hout b hb]; exact hx) (fun _ _ => rfl) q
end Dg
namespace Dg
open PySem PySem.Spec L2
local macro_rules | `(tactic| wtm_at "ne") => `(tactic| first | assumption | (apply Ne.symm; assumption) | (grind [ud, er]))
local macro_rules | `(tactic| wtm_at "lk") => `(tactic| first | (with_reducible assumption) | (with_reducible exact ud_same) | ((with_reducible refine (ud_ne (by wtm_at "ne")).trans ?_); wtm_at "lk"))
local macro_rules | `(tactic| wtm_at "gl") => `(tactic| first | (with_reducible assumption) | (with_reducible exact lst_ref (by wtm_at "lk")) | (with_reducible exact lstOf_new (by assumption) (by assumption)) | (with_unfolding_all exact rfl))
local macro_rules | `(tactic| wtm_at "vl") => `(tactic| first | (with_reducible exact val_ref (by wtm_at "lk")) | (with_unfolding_all exact rfl))
local macro_rules | `(tactic| wtm_at "dk") => `(tactic| with_reducible first | exact dK_own (by wtm_at "lk") | exact dK_lk (by wtm_at "lk") | exact dT_own (by wtm_at "lk"))
local macro_rules | `(tactic| wtm_at "pl") => `(tactic| with_unfolding_all first | exact rfl | exact all_int _ | exact all_P2 _ | assumption)
local macro_rules | `(tactic| wtm_at "nn") => `(tactic| first | omega | decide | (simp only [List.length_cons, List.length_nil, List.length_map, List.length_append]; omega) | grind)
local macro_rules | `(tactic| wtm_at "st") => `(tactic| (simp only [stD, List.map_cons, List.map_nil, List.length_cons, List.length_nil, List.replicate, Nat.reduceAdd, Nat.reduceSub, List.cons_append, List.nil_append]))
local macro_rules | `(tactic| wtm_at "1") => `(tactic| with_reducible first
  | refine w_seq ?_ | refine w_asgN ?_ | refine w_asgS ?_ | refine w_asgT ?_ | refine w_ret ?_ | refine w_drop ?_ | refine w_ifS ?_ | refine w_test ?_ | refine w_next ?_
  | refine w_nx ?_ | refine w_nx0 ?_ | refine w_rt ?_ | refine w_bk ?_ | refine w_ct ?_
  | refine w_bl2 ?_ | refine w_and ?_ | refine w_or ?_ | refine w_not ?_ | refine w_andV ?_ | refine w_orV ?_ | refine w_notV ?_ | refine w_if ?_
  | (apply w_var; (· with_unfolding_all rfl)) | refine w_c ?_ | refine w_op ?_ | refine w_chain ?_ | refine w_nil ?_ | refine w_cons ?_ | refine w_tup ?_ | refine w_lst ?_
  | (apply w_len; (· wtm_at "nn")) | refine w_call ?_ | refine w_cb ?_ | refine w_isN ?_ | refine w_notN ?_ | refine w_fz ?_
  | refine w_add ?_ | refine w_sub ?_ | refine w_lt ?_ | refine w_le ?_ | refine w_gt ?_ | refine w_ge ?_ | (apply w_mod; (· wtm_at "nn")) | (apply w_div; (· wtm_at "nn"); (· wtm_at "nn"))
  | (apply w_eq; (· with_unfolding_all rfl)) | (apply w_ne; (· with_unfolding_all rfl))
  | (apply w_ixT; (· with_unfolding_all rfl)) | (apply w_ixL; (· wtm_at "gl"); (· with_unfolding_all rfl))
  | refine w_lenT ?_ | (apply w_lenL; (· wtm_at "gl")) | refine w_min2 ?_ | refine w_max2 ?_ | refine w_intB ?_ | (apply w_tupleL; (· wtm_at "gl"))
  | refine w_bm ?_ | refine w_bm0 ?_ | (apply w_ty; (· wtm_at "gl"))
  | (apply w_setL; (· wtm_at "lk"); (· with_unfolding_all rfl)) | (apply w_append; (· wtm_at "lk"); (· wtm_at "nn")) | (apply w_extend; (· wtm_at "lk"); (· wtm_at "gl"); (· wtm_at "nn"))
  | refine w_hcons ?_ | refine w_hnil ?_ | refine w_hname ?_ | (apply w_htup; (· with_unfolding_all rfl)) | (apply w_exT; (· with_unfolding_all rfl))
  | refine w_lcR1 ?_ | refine w_lcL ?_ | refine w_lcT ?_ | refine w_forR1 ?_ | refine w_forR2 ?_ | refine w_forL ?_ | refine w_forT ?_ | refine w_yes ?_ | refine w_cnm ?_ | (apply w_ctp; (· with_unfolding_all rfl))
  | (apply w_exL; (· wtm_at "gl")) | refine w_exTu ?_ | (apply w_exI; (· wtm_at "nn")) | (apply w_exI2; (· wtm_at "nn")) | refine w_exII ?_
  | refine w_lcK ?_ | refine w_fld ?_ | refine w_fldS ?_ | refine w_meth ?_ | refine w_make ?_ | (apply w_fldE; (· wtm_at "lk"); (· with_unfolding_all rfl)) | (apply w_fldSE; (· wtm_at "lk"); (· first | exact insF_lt | (with_unfolding_all exact Nat.le_of_ble_eq_true rfl) | wtm_at "nn")) | (apply w_lenD; (· wtm_at "lk"))
  | refine w_disp ?_ | refine w_pnil ?_ | refine w_pcons ?_ | (apply w_dispE; (· wtm_at "lk"); (· with_unfolding_all rfl); (· wtm_at "nn"))
  | refine w_dget ?_ | refine w_din ?_ | refine w_dget1 ?_ | refine w_dput ?_ | refine w_dpop1 ?_ | refine w_lenSet ?_ | refine w_listRng ?_ | refine w_notInRng ?_
  | (apply w_inK; (· wtm_at "dk"); (· with_unfolding_all rfl)) | (apply w_inT; (· wtm_at "dk"); (· with_unfolding_all exact keyT_lit))
  | (apply w_lkK; (· wtm_at "dk"); (· with_unfolding_all rfl); (· first | exact lv_web | exact lv_age | exact lv_room | exact lv_spots | exact lv_known | exact lv_time)) | (apply w_isK; (· wtm_at "dk")) | (apply w_isT; (· wtm_at "dk"))
  | (apply w_putK; (· wtm_at "lk"); (· with_unfolding_all rfl); (· wtm_at "nn")) | (apply w_putT; (· wtm_at "lk"); (· with_unfolding_all exact keyT_lit); (· wtm_at "nn")))
local macro_rules | `(tactic| wtm_at "bb") => `(tactic| (simp only [isN, Bool.not_true, Bool.not_false, Bool.or_true, Bool.true_or, Bool.or_false, Bool.false_or, Bool.xor_true, Bool.xor_false]; done))
local macro_rules | `(tactic| wtm_at "kt") => `(tactic| with_reducible first | exact kb_tu_tu | exact kb_tu_li | exact kb_tu_bo | exact kb_tu_st | exact kb_tu_in | exact kb_li_tu | exact kb_li_li | exact kb_li_bo | exact kb_li_st | exact kb_li_in | exact kb_No_tu | exact kb_No_li | exact kb_No_bo | exact kb_No_st | exact kb_No_in | exact kb_bo_tu | exact kb_bo_li | exact kb_bo_bo | exact kb_bo_st | exact kb_bo_in | exact kb_in_tu | exact kb_in_li | exact kb_in_bo | exact kb_in_st | exact kb_in_in | exact kb_st_tu | exact kb_st_li | exact kb_st_bo | exact kb_st_st | exact kb_st_in)
local macro_rules | `(tactic| wtm_at "ty") => `(tactic| first | assumption | exact ty_ref (by wtm_at "lk") | (with_unfolding_all exact rfl))
local macro_rules | `(tactic| wtm_at "x") => `(tactic| with_reducible first
  | (apply w_taken; (· wtm_at "lk"); (· wtm_at "nn"); (· wtm_at "nn")) | (apply w_eqD; (· wtm_at "vl"); (· wtm_at "vl"); (· wtm_at "pl"); (· wtm_at "pl")) | (apply w_neD; (· wtm_at "vl"); (· wtm_at "vl"); (· wtm_at "pl"); (· wtm_at "pl"))
  | (apply vR_row; (· assumption)) | (refine vR_frz (by assumption) ?_) | refine frz_let ?_ | refine w_isi ?_ | refine w_isi2 ?_ | (apply w_isiE; (· wtm_at "ty"); (· wtm_at "kt")) | (apply w_isiE2; (· wtm_at "ty"); (· wtm_at "kt"); (· wtm_at "kt"))
  | refine w_iteT rfl ?_ | refine w_iteF rfl ?_ | (apply w_iteT; (· wtm_at "bb")) | (apply w_iteF; (· wtm_at "bb")))
local macro_rules | `(tactic| wtm_at "w") => `(tactic| repeat (first | wtm_at "1" | wtm_at "x"))
theorem refs_at {ds : List Addr} {b : Int} (h0 : 0 ≤ b) (h1 : b < ds.length) : ∃ d, ds[b.toNat]? = some d ∧ atI (ds.map D.ref) b = some (.ref d) := by
  have hl : b.toNat < ds.length := by omega
  refine ⟨ds[b.toNat], List.getElem?_eq_getElem hl, ?_⟩
  rw [atI_pos h0 (by rw [List.length_map]; omega), List.getElem?_map, List.getElem?_eq_getElem hl]
  rfl
theorem kn_at {st : Mg.NS} {b : Int} (h0 : 0 ≤ b) (h1 : b < st.known.length) : st.known[b.toNat]? = some (Mg.knAt st b) := by
  have hl : b.toNat < st.known.length := by omega
  unfold Mg.knAt
  rw [List.getD_eq_getElem?_getD, List.getElem?_eq_getElem hl]
  rfl
theorem r_N_door_of {K : PySem.W.Frag} : Rd 6 (b_N_door_of K) (sp_N_door_of K) := by
  rintro _ G Q ⟨a, st, b, h, t, rfl, hv, h0, h1, q⟩ F H σ is hg
  obtain ⟨th, G1, rfl, ho, hg1, hn, hout, fin⟩ := netV_view hv hg
  refine ⟨F, _, G1, Ext.refl F H, is, hg1, ?_⟩
  have fin2 : ∀ d, Q d G → vR Q d G1 := fun d q => fin Q _ G1 G (fun _ _ => rfl) (fun b x hb hx => by rw [hout b hb]; exact hx) (fun _ _ => rfl) q
  wtm_at "st"
  unfold b_N_door_of
  have ga := ho.ga
  have gk := ho.gk
  obtain ⟨d, hd, had⟩ := refs_at (ds := th.ds) h0 (by rw [ho.len]; exact h1)
  have gd := ho.gd hd (kn_at h0 h1)
  have e : Mg.doorF st b h t = (match Mg.kGet (Mg.knAt st b) h with
    | none => none
    | some (d, seen) => if t ≤ seen + st.age then some d else none) := rfl
  rw [e] at q
  wtm_at "w"
  refine w_ixL (lst_ref gk) had ?_
  wtm_at "w"
  rw [valD_kv, Option.isSome_map, bx_t]
  cases hk : Mg.kGet (Mg.knAt st b) h with
  | none =>
    rw [hk] at q
    refine w_iteT rfl ?_
    wtm_at "w"
    exact fin2 _ q
  | some v =>
    rw [hk] at q
    obtain ⟨dd, seen⟩ := v
    dsimp only at q
    refine w_iteF rfl ?_
    wtm_at "w"
    refine w_ixL (lst_ref gk) had ?_
    wtm_at "w"
    refine w_lkK (dK_own gd) rfl (by rw [valD_kv, hk]; rfl) ?_
    wtm_at "w"
    refine w_ite (fun c => ?_) (fun c => ?_) <;> wtm_at "w"
    · rw [if_pos (of_decide_eq_true c)] at q
      exact fin2 _ q
    · rw [if_neg (of_decide_eq_false c)] at q
      exact fin2 _ q
theorem mem_of_kGet {kn : Mg.Kn} {h : Int} {v : Int × Int} (e : Mg.kGet kn h = some v) : (h, v) ∈ kn := by
  unfold Mg.kGet at e
  rw [Option.map_eq_some_iff] at e
  obtain ⟨p, h1, h2⟩ := e
  have m1 := List.mem_of_find?_eq_some h1
  have m2 : p.1 = h := by simpa using List.find?_some h1
  obtain ⟨p1, p2⟩ := p
  cases m2
  cases h2
  exact m1
theorem minF_eq : ∀ (rs : List (Int × Int)) (r m : Int × Int), m ∈ r :: rs → (∀ q ∈ r :: rs, ¬ ltP q m) → (r :: rs).Nodup → Mg.minF rs r = m
  | [], r, m, hm, _, _ => by simp at hm; rw [hm]; rfl
  | s :: rs, r, m, hm, hq, hnd => by
    rw [Mg.minF]
    have tot : ∀ a b : Int × Int, ¬ ltP a b → ¬ ltP b a → a = b := fun a b h1 h2 => by
      unfold ltP at h1 h2
      exact Prod.ext (by omega) (by omega)
    rw [List.nodup_cons, List.nodup_cons] at hnd
    by_cases c : Mg.ltP s r
    · rw [if_pos c]
      refine minF_eq rs s m ?_ (fun q hq2 => hq q (List.mem_cons_of_mem _ hq2)) (List.nodup_cons.mpr hnd.2)
      rcases List.mem_cons.mp hm with z | z
      · exact absurd c (z ▸ hq s (by simp))
      · exact z
    · rw [if_neg c]
      refine minF_eq rs r m ?_ (fun q hq2 => ?_) ?_
      · rcases List.mem_cons.mp hm with z | z
        · simp [z]
        · rcases List.mem_cons.mp z with w | w
          · subst w
            exact absurd (tot m r c (hq r (by simp))) (fun e => hnd.1 (by rw [← e]; simp))
          · simp [w]
      · rcases List.mem_cons.mp hq2 with z | z
        · exact hq q (by simp [z])
        · exact hq q (by simp [z])
      · rw [List.nodup_cons]
        exact ⟨fun z => hnd.1 (by simp [z]), hnd.2.2⟩
theorem oldest_eq {kn : Mg.Kn} (hnd : (Mg.kKeys kn).Nodup) {m : Int × Int} (hm : m ∈ kn.map fun p => ((p.2.2, p.1) : Int × Int)) (hq : ∀ q ∈ kn.map (fun p => ((p.2.2, p.1) : Int × Int)), ¬ ltP q m) : Mg.oldest kn = m.2 := by
  unfold Mg.oldest
  have hnd2 : (kn.map fun p => ((p.2.2, p.1) : Int × Int)).Nodup := by
    refine List.Pairwise.of_map (S := (· ≠ ·)) (fun q : Int × Int => q.2) (fun a b h e => h (by rw [e])) ?_
    rw [List.map_map]
    exact hnd
  cases e : kn.map fun p => ((p.2.2, p.1) : Int × Int) with
  | nil => rw [e] at hm; cases hm
  | cons r rs =>
    rw [e] at hm hq hnd2
    dsimp only
    rw [minF_eq rs r m hm hq hnd2]
theorem kv_zip (kn : Mg.Kn) : kvD kn = ((Mg.kKeys kn).map Sum.inl).zip (kn.map fun p => dtD p.2) := by
  unfold kvD Mg.kKeys
  rw [List.map_map, List.zip_map']
  rfl
theorem kGet_mem {kn : Mg.Kn} (hnd : (Mg.kKeys kn).Nodup) {p : Int × (Int × Int)} (hp : p ∈ kn) : Mg.kGet kn p.1 = some p.2 := by
  induction kn with
  | nil => cases hp
  | cons q kn ih =>
    have hnd : (q.1 :: Mg.kKeys kn).Nodup := hnd
    rw [List.nodup_cons] at hnd
    rw [Mg.kGet_cons]
    rcases List.mem_cons.mp hp with z | z
    · rw [z, if_pos rfl]
    · have hm : p.1 ∈ Mg.kKeys kn := List.mem_map_of_mem (f := (·.1)) z
      rw [if_neg (fun (w : q.1 = p.1) => hnd.1 (w ▸ hm))]
      exact ih hnd.2 z
theorem r_N_learn {K : PySem.W.Frag} : Rd 7 (b_N_learn K) (sp_N_learn K) := by
  rintro _ G Q ⟨t, st, b, h, d, tm, rfl, ho, ⟨n0, hok⟩, h0, h1, q⟩
  have hkl : (st.known.length : Int) = st.n := hok.kl
  have hb : b < st.known.length := by omega
  obtain ⟨p, hp, hap⟩ := refs_at (ds := t.ds) h0 (by rw [ho.len]; exact hb)
  have hkn := kn_at h0 hb
  have ga := ho.ga
  have gk := ho.gk
  have gp := ho.gd hp hkn
  have hko : KnOk st.spots.length st.room n0 (Mg.knAt st b) := hok.kn _ (List.mem_of_getElem? hkn)
  have hr8 : st.room ≤ 8 := hok.r8
  have hr1 : 1 ≤ st.room := hok.r1
  have e : Mg.learnF st b h d tm = { st with known := st.known.set b.toNat (Mg.learnK st.room (Mg.knAt st b) h d tm) } := rfl
  rw [e] at q
  have hpads : p ∈ t.ads := by unfold Nt.ads; simp [List.mem_of_getElem? hp]
  have hpa : t.a ≠ p := fun z => by rw [z, gp] at ga; cases ga
  obtain ⟨n1, n2, n3⟩ := hko
  have hkv : (kvD (Mg.knAt st b)).length = (Mg.knAt st b).length := by unfold kvD; rw [List.length_map]
  generalize Mg.knAt st b = kn at *
  have fin : ∀ kn', ud G p (.sm (.dK (kvD kn'))) = ud G p (.sm (.dK (kvD kn'))) → kn' = Mg.learnK st.room kn h d tm → vRt Q .non (ud G p (.sm (.dK (kvD kn')))) := fun kn' _ he => by
    subst he
    exact vR0 (q _ (ho.setK hp _) fun x hx => ud_ne (fun z => hx (z ▸ hpads)))
  wtm_at "st"
  refine vN0 ?_
  unfold b_N_learn
  wtm_at "w"
  refine w_ixL (lst_ref gk) hap ?_
  wtm_at "w"
  rw [valD_kv, Option.isSome_map, bx_t]
  by_cases c : Mg.kGet kn h = none
  · rw [c]
    refine w_iteT rfl ?_
    wtm_at "w"
    rw [hkv]
    refine w_ite (fun c2 => ?_) (fun c2 => ?_)
    · have c3 : (kn.length : Int) = st.room := of_decide_eq_true c2
      have hne : kn ≠ [] := fun z => by rw [z] at c3; simp at c3; omega
      wtm_at "w"
      refine ⟨p, kvD kn, gp, fun z => ?_⟩
      wtm_at "w"
      refine ⟨p, z, (Mg.kKeys kn).map Sum.inl, kn.map fun p => dtD p.2, rfl, by rw [ud_same, kv_zip], by simp [Mg.kKeys], Mg.kKeys kn, rfl, ?_⟩
      rw [← kv_zip]
      have hlk : (Mg.kKeys kn).length = kn.length := by simp [Mg.kKeys]
      have hlm : (Mg.kKeys kn).length = ((Mg.kKeys kn).map D.int).length := by rw [List.length_map]
      rw [hlm]
      refine lc_over (fun k => some (.tup [.int ((Mg.kGet kn k).getD (0, 0)).2, .int k])) (by omega) (fun y acc hy => ?_) ?_ ?_
      · exact (ud_ne (fun w => by rw [← w, ud_same] at hy; cases hy)).trans ud_same
      · rintro k y acc N M hk hy hN hM
        have hyp : p ≠ y := fun w => by rw [← w, ud_same] at hy; cases hy
        obtain ⟨v, hv⟩ : ∃ v, Mg.kGet kn k = some v := by
          cases e : Mg.kGet kn k with
          | some v => exact ⟨v, rfl⟩
          | none => exact absurd hk (Mg.kGet_none.mp e)
        wtm_at "w"
        refine w_lkK (dK_lk (by wtm_at "lk")) rfl (by rw [valD_kv, hv]; rfl) ?_
        wtm_at "w"
        exact hN _ (by rw [hv]; rfl)
      · intro y hy
        have hyp : p ≠ y := fun w => by rw [← w, ud_same] at hy; cases hy
        refine ⟨(ud_ne hyp).trans ud_same, ?_⟩
        have hy0 : G y = none := by rw [ud_ne (Ne.symm hyp)] at hy; exact hy
        rw [ud_comm (Ne.symm hyp), ud_ud, ud_self gp]
        refine vR_frz hy0 ?_
        wtm_at "w"
        have ep : (Mg.kKeys kn).filterMap (fun k => some (D.tup [.int ((Mg.kGet kn k).getD (0, 0)).2, .int k])) = (kn.map fun p => ((p.2.2, p.1) : Int × Int)).map fun p => D.tup [.int p.1, .int p.2] := by
          rw [List.filterMap_eq_map', List.map_map]
          unfold Mg.kKeys
          rw [List.map_map]
          refine List.map_congr_left fun q hq => ?_
          simp only [Function.comp]
          rw [kGet_mem n1 hq]
          rfl
        rw [ep]
        refine ⟨_, kn.map fun p => ((p.2.2, p.1) : Int × Int), rfl, rfl, by simpa using hne, fun m hm hq => ?_⟩
        have hold := oldest_eq n1 hm hq
        wtm_at "w"
        obtain ⟨q0, hq0, rfl⟩ := List.mem_map.mp hm
        dsimp only at hold
        refine ⟨p, kvD kn, .inl q0.1, dtD q0.2, rfl, gp, rfl, by rw [valD_kv, kGet_mem n1 hq0]; rfl, ?_⟩
        rw [dropD_kv]
        wtm_at "w"
        refine w_putK ud_same rfl ?_ ?_
        · unfold kvD Mg.kDrop
          rw [List.length_map]
          have := List.length_filter_le (fun p : Int × (Int × Int) => decide (p.1 ≠ q0.1)) kn
          omega
        · rw [ud_ud, show D.tup [.int d, .int tm] = dtD (d, tm) from rfl, putD_kv]
          wtm_at "w"
          refine fin _ rfl ?_
          unfold Mg.learnK
          rw [if_pos ⟨by rw [c]; rfl, c3⟩, hold]
    · have c3 : ¬ (kn.length : Int) = st.room := of_decide_eq_false c2
      wtm_at "w"
      rw [show D.tup [.int d, .int tm] = dtD (d, tm) from rfl, putD_kv]
      refine fin _ rfl ?_
      unfold Mg.learnK
      rw [if_neg fun z => c3 z.2]
  · have cs : (Mg.kGet kn h).isSome = true := by
      cases e : Mg.kGet kn h with
      | none => exact absurd e c
      | some v => rfl
    rw [cs]
    refine w_iteF rfl ?_
    refine w_iteF rfl ?_
    wtm_at "w"
    rw [show D.tup [.int d, .int tm] = dtD (d, tm) from rfl, putD_kv]
    refine fin _ rfl ?_
    unfold Mg.learnK
    rw [if_neg fun z => by
      have := z.1
      cases e : Mg.kGet kn h with
      | none => exact c e
      | some v => rw [e] at this; cases this]
end Dg
namespace Dg
open PySem PySem.Spec L2
local macro_rules | `(tactic| wtm_at "ne") => `(tactic| first | assumption | (apply Ne.symm; assumption) | (grind [ud, er]))
local macro_rules | `(tactic| wtm_at "lk") => `(tactic| first | (with_reducible assumption) | (with_reducible exact ud_same) | ((with_reducible refine (ud_ne (by wtm_at "ne")).trans ?_); wtm_at "lk"))
local macro_rules | `(tactic| wtm_at "gl") => `(tactic| first | (with_reducible assumption) | (with_reducible exact lst_ref (by wtm_at "lk")) | (with_reducible exact lstOf_new (by assumption) (by assumption)) | (with_unfolding_all exact rfl))
local macro_rules | `(tactic| wtm_at "vl") => `(tactic| first | (with_reducible exact val_ref (by wtm_at "lk")) | (with_unfolding_all exact rfl))
local macro_rules | `(tactic| wtm_at "dk") => `(tactic| with_reducible first | exact dK_own (by wtm_at "lk") | exact dK_lk (by wtm_at "lk") | exact dT_own (by wtm_at "lk"))
local macro_rules | `(tactic| wtm_at "pl") => `(tactic| with_unfolding_all first | exact rfl | exact all_int _ | exact all_P2 _ | assumption)
local macro_rules | `(tactic| wtm_at "nn") => `(tactic| first | omega | decide | (simp only [List.length_cons, List.length_nil, List.length_map, List.length_append]; omega) | grind)
local macro_rules | `(tactic| wtm_at "st") => `(tactic| (simp only [stD, List.map_cons, List.map_nil, List.length_cons, List.length_nil, List.replicate, Nat.reduceAdd, Nat.reduceSub, List.cons_append, List.nil_append]))
local macro_rules | `(tactic| wtm_at "1") => `(tactic| with_reducible first
  | refine w_seq ?_ | refine w_asgN ?_ | refine w_asgS ?_ | refine w_asgT ?_ | refine w_ret ?_ | refine w_drop ?_ | refine w_ifS ?_ | refine w_test ?_ | refine w_next ?_
  | refine w_nx ?_ | refine w_nx0 ?_ | refine w_rt ?_ | refine w_bk ?_ | refine w_ct ?_
  | refine w_bl2 ?_ | refine w_and ?_ | refine w_or ?_ | refine w_not ?_ | refine w_andV ?_ | refine w_orV ?_ | refine w_notV ?_ | refine w_if ?_
  | (apply w_var; (· with_unfolding_all rfl)) | refine w_c ?_ | refine w_op ?_ | refine w_chain ?_ | refine w_nil ?_ | refine w_cons ?_ | refine w_tup ?_ | refine w_lst ?_
  | (apply w_len; (· wtm_at "nn")) | refine w_call ?_ | refine w_cb ?_ | refine w_isN ?_ | refine w_notN ?_ | refine w_fz ?_
  | refine w_add ?_ | refine w_sub ?_ | refine w_lt ?_ | refine w_le ?_ | refine w_gt ?_ | refine w_ge ?_ | (apply w_mod; (· wtm_at "nn")) | (apply w_div; (· wtm_at "nn"); (· wtm_at "nn"))
  | (apply w_eq; (· with_unfolding_all rfl)) | (apply w_ne; (· with_unfolding_all rfl))
  | (apply w_ixT; (· with_unfolding_all rfl)) | (apply w_ixL; (· wtm_at "gl"); (· with_unfolding_all rfl))
  | refine w_lenT ?_ | (apply w_lenL; (· wtm_at "gl")) | refine w_min2 ?_ | refine w_max2 ?_ | refine w_intB ?_ | (apply w_tupleL; (· wtm_at "gl"))
  | refine w_bm ?_ | refine w_bm0 ?_ | (apply w_ty; (· wtm_at "gl"))
  | (apply w_setL; (· wtm_at "lk"); (· with_unfolding_all rfl)) | (apply w_append; (· wtm_at "lk"); (· wtm_at "nn")) | (apply w_extend; (· wtm_at "lk"); (· wtm_at "gl"); (· wtm_at "nn"))
  | refine w_hcons ?_ | refine w_hnil ?_ | refine w_hname ?_ | (apply w_htup; (· with_unfolding_all rfl)) | (apply w_exT; (· with_unfolding_all rfl))
  | refine w_lcR1 ?_ | refine w_lcL ?_ | refine w_lcT ?_ | refine w_forR1 ?_ | refine w_forR2 ?_ | refine w_forL ?_ | refine w_forT ?_ | refine w_yes ?_ | refine w_cnm ?_ | (apply w_ctp; (· with_unfolding_all rfl))
  | (apply w_exL; (· wtm_at "gl")) | refine w_exTu ?_ | (apply w_exI; (· wtm_at "nn")) | (apply w_exI2; (· wtm_at "nn")) | refine w_exII ?_
  | refine w_lcK ?_ | refine w_fld ?_ | refine w_fldS ?_ | refine w_meth ?_ | refine w_make ?_ | (apply w_fldE; (· wtm_at "lk"); (· with_unfolding_all rfl)) | (apply w_fldSE; (· wtm_at "lk"); (· wtm_at "nn")) | (apply w_lenD; (· wtm_at "lk"))
  | refine w_disp ?_ | refine w_pnil ?_ | refine w_pcons ?_ | (apply w_dispE; (· wtm_at "lk"); (· with_unfolding_all rfl); (· wtm_at "nn"))
  | refine w_dget ?_ | refine w_din ?_ | refine w_dget1 ?_ | refine w_dput ?_ | refine w_dpop1 ?_ | refine w_lenSet ?_ | refine w_listRng ?_ | refine w_notInRng ?_
  | (apply w_inK; (· wtm_at "dk"); (· with_unfolding_all rfl)) | (apply w_inT; (· wtm_at "dk"); (· with_unfolding_all exact keyT_lit))
  | (apply w_isK; (· wtm_at "dk")) | (apply w_isT; (· wtm_at "dk"))
  | (apply w_putK; (· wtm_at "lk"); (· with_unfolding_all rfl); (· wtm_at "nn")) | (apply w_putT; (· wtm_at "lk"); (· with_unfolding_all exact keyT_lit); (· wtm_at "nn")))
local macro_rules | `(tactic| wtm_at "bb") => `(tactic| (simp only [isN, Bool.not_true, Bool.not_false, Bool.or_true, Bool.true_or, Bool.or_false, Bool.false_or, Bool.xor_true, Bool.xor_false]; done))
local macro_rules | `(tactic| wtm_at "kt") => `(tactic| with_reducible first | exact kb_tu_tu | exact kb_tu_li | exact kb_tu_bo | exact kb_tu_st | exact kb_tu_in | exact kb_li_tu | exact kb_li_li | exact kb_li_bo | exact kb_li_st | exact kb_li_in | exact kb_No_tu | exact kb_No_li | exact kb_No_bo | exact kb_No_st | exact kb_No_in | exact kb_bo_tu | exact kb_bo_li | exact kb_bo_bo | exact kb_bo_st | exact kb_bo_in | exact kb_in_tu | exact kb_in_li | exact kb_in_bo | exact kb_in_st | exact kb_in_in | exact kb_st_tu | exact kb_st_li | exact kb_st_bo | exact kb_st_st | exact kb_st_in)
local macro_rules | `(tactic| wtm_at "ty") => `(tactic| first | assumption | exact ty_ref (by wtm_at "lk") | (with_unfolding_all exact rfl))
local macro_rules | `(tactic| wtm_at "x") => `(tactic| with_reducible first
  | (apply w_taken; (· wtm_at "lk"); (· wtm_at "nn"); (· wtm_at "nn")) | (apply w_eqD; (· wtm_at "vl"); (· wtm_at "vl"); (· wtm_at "pl"); (· wtm_at "pl")) | (apply w_neD; (· wtm_at "vl"); (· wtm_at "vl"); (· wtm_at "pl"); (· wtm_at "pl"))
  | (apply vR_row; (· assumption)) | (refine vR_frz (by assumption) ?_) | refine frz_let ?_ | refine w_isi ?_ | refine w_isi2 ?_ | (apply w_isiE; (· wtm_at "ty"); (· wtm_at "kt")) | (apply w_isiE2; (· wtm_at "ty"); (· wtm_at "kt"); (· wtm_at "kt"))
  | refine w_iteT rfl ?_ | refine w_iteF rfl ?_ | (apply w_iteT; (· wtm_at "bb")) | (apply w_iteF; (· wtm_at "bb")))
local macro_rules | `(tactic| wtm_at "w") => `(tactic| repeat (first | wtm_at "1" | wtm_at "x"))
theorem w_door_of {K : PySem.W.Frag} {a : Addr} {st : Mg.NS} {b h t : Int} {G : Gp} {Q : DK} (hv : NetV K G a st) (h0 : 0 ≤ b) (h1 : b < st.known.length) (q : Q (optD (Mg.doorF st b h t)) G) : sp_N_door_of K [.ref a, .int b, .int h, .int t] G Q := ⟨a, st, b, h, t, rfl, hv, h0, h1, q⟩
theorem outs_map (d : Int) : (List.range (Int.toNat 4)).filterMap (fun (i : Nat) => if (i : Int) ≠ d then some (D.int (i : Int)) else none) = (([0, 1, 2, 3] : List Int).filter fun o => decide (o ≠ d)).map D.int := by
  have e : List.range (Int.toNat 4) = [0, 1, 2, 3] := rfl
  rw [e]
  simp only [List.filterMap_cons, List.filterMap_nil, List.filter_cons, List.filter_nil, decide_eq_true_eq]
  grind
def bi_outs : DS := (dSeq (dIfS (dTest (dIsN (dVar 5))) (dRet (dLcR1 (dCons (dC (.int 4)) dNil) (.nm 6) (dTest (dOp eNe (dVar 6) (dVar 2))) (dVar 6) [6])) dNext)
    (dRet (dIf (dTest (dOp eNeD (dVar 5) (dVar 2))) (dFz (dLst (dCons (dVar 5) dNil))) (dFz (dLst dNil)))))
theorem r_N_doors_out {K : PySem.W.Frag} : Rd 7 (b_N_doors_out K) (sp_N_doors_out K) := by
  rintro _ G Q ⟨a, st, b, d, to, t, rfl, hv, h0, h1, q⟩
  wtm_at "st"
  refine vN0 ?_
  unfold b_N_doors_out
  have e : Mg.outsF st b d to t = (match to.bind (fun z => Mg.doorF st b z t) with
    | none => ([0, 1, 2, 3] : List Int).filter fun o => decide (o ≠ d)
    | some z => if z ≠ d then [z] else []) := rfl
  rw [e] at q
  have key : ∀ o : Option Int, to.bind (fun z => Mg.doorF st b z t) = o →
      bi_outs { nx := fun _ G' => vRt Q .non G', rt := vRt Q } [some (.ref a), some (.int b), some (.int d), some (optD to), some (.int t), some (optD o), none] G := by
    intro o ho
    unfold bi_outs
    rw [ho] at q
    cases o with
    | none =>
      dsimp only at q
      wtm_at "w"
      refine lc_pure (fun i => if (i : Int) ≠ d then some (.int (i : Int)) else none) (by decide) (fun _ _ _ => trivial) ?_ ?_
      · rintro i dd p acc N M hi rfl hp hN hM
        rw [Int.zero_add]
        wtm_at "w"
        refine w_ite (fun c => ?_) (fun c => ?_)
        · wtm_at "w"
          exact hN _ (if_pos (by simpa using c))
        · exact hM (if_neg (by simpa using c))
      · intro p hp
        wtm_at "w"
        rw [outs_map]
        exact vR_frz hp q
    | some z =>
      dsimp only at q
      wtm_at "w"
      intro c hc
      wtm_at "w"
      have hc2 : c = true ↔ z = d := hc.trans ⟨fun h => D.int.inj h, fun h => by rw [h]; rfl⟩
      refine w_ite (fun h => ?_) (fun h => ?_) <;> wtm_at "w"
      · rw [if_pos (fun w => by rw [hc2.mpr w] at h; cases h)] at q
        exact vR0 q
      · rw [if_neg (fun w => w (hc2.mp (by simpa using h)))] at q
        exact vR0 q
  have hbi : (dSeq (dIfS (dTest (dIsN (dVar 5))) (dRet (dLcR1 (dCons (dC (.int 4)) dNil) (.nm 6) (dTest (dOp eNe (dVar 6) (dVar 2))) (dVar 6) [6])) dNext)
    (dRet (dIf (dTest (dOp eNeD (dVar 5) (dVar 2))) (dFz (dLst (dCons (dVar 5) dNil))) (dFz (dLst dNil))))) = bi_outs := rfl
  rw [hbi]
  cases to with
  | none =>
    wtm_at "w"
    exact key none rfl
  | some z =>
    wtm_at "w"
    refine w_methE (netV_ins hv fun _ => rfl) ?_
    wtm_at "w"
    refine w_door_of hv h0 h1 ?_
    wtm_at "w"
    exact key _ rfl
theorem r_N_places {K : PySem.W.Frag} : Rd 1 (b_N_places K) (sp_N_places K) := by
  rintro _ G Q ⟨a, st, rfl, hv, q⟩ F H σ is hg
  obtain ⟨th, G1, rfl, ho, hg1, hn, hout, fin⟩ := netV_view hv hg
  refine ⟨F, _, G1, Ext.refl F H, is, hg1, ?_⟩
  wtm_at "st"
  unfold b_N_places
  have ga := ho.ga
  have gs := ho.gs
  wtm_at "w"
  refine w_listL (lst_ref gs) fun p hp => ?_
  have hpn := ho.fresh hp
  wtm_at "w"
  refine fin Q _ _ (ud G p (.sm (.lst (st.spots.map P2)))) (fun b hb => ud_ne (fun z => hpn (z ▸ hb))) (fun b x hb hx => ?_) (fun b hb => ud_ne (fun z => hpn (z ▸ hb))) (q p (hn p hp))
  by_cases e : b = p
  · rw [e, ud_same] at hx ⊢
    exact hx
  · rw [ud_ne e] at hx ⊢
    rw [hout b hb]
    exact hx
theorem r_N_knows {K : PySem.W.Frag} : Rd 3 (b_N_knows K) (sp_N_knows K) := by
  rintro _ G Q ⟨a, st, b, rfl, hv, hok, h0, h1, q⟩ F H σ is hg
  obtain ⟨th, G1, rfl, ho, hg1, hn, hout, fin⟩ := netV_view hv hg
  refine ⟨F, _, G1, Ext.refl F H, is, hg1, ?_⟩
  wtm_at "st"
  unfold b_N_knows
  have ga := ho.ga
  have gk := ho.gk
  have hkl := hok.kl
  have hb : b < st.known.length := by omega
  obtain ⟨d, hd, had⟩ := refs_at (ds := th.ds) h0 (by rw [ho.len]; exact hb)
  have hkn := kn_at h0 hb
  have gd := ho.gd hd hkn
  obtain ⟨n1, n2, n3⟩ := hok.kn _ (List.mem_of_getElem? hkn)
  have hr8 := hok.r8
  have hlk : (Mg.kKeys (Mg.knAt st b)).length = (Mg.knAt st b).length := by simp [Mg.kKeys]
  generalize Mg.knAt st b = kn at *
  wtm_at "w"
  refine w_ixL (lst_ref gk) had ?_
  wtm_at "w"
  refine ⟨d, kvD kn, Mg.kKeys kn, rfl, dK_own gd, by unfold kvD Mg.kKeys; rw [List.map_map, List.map_map]; rfl, by omega, fun ys hp hs z hz => ?_⟩
  have hys : ys = Mg.srtK kn := Mg.rising_eq (hp.trans (Mg.srtK_perm kn).symm) hs (Mg.srtK_sorted kn)
  subst hys
  have hlen := (Mg.srtK_perm kn).length_eq
  wtm_at "w"
  refine lc_over (fun h => some (TN [h, ((Mg.kGet kn h).getD (0, 0)).1, ((Mg.kGet kn h).getD (0, 0)).2])) (by omega) (fun _ _ _ => rfl) ?_ ?_
  · rintro h y acc N M hh hy hN hM
    have ho2 := ho.new (x := .sm (.lst acc)) hy
    have ga2 := ho2.ga
    have gk2 := ho2.gk
    have gd2 := ho2.gd hd hkn
    have hmem := (Mg.srtK_perm kn).subset hh
    obtain ⟨v, hv⟩ : ∃ v, Mg.kGet kn h = some v := by
      cases e : Mg.kGet kn h with
      | some v => exact ⟨v, rfl⟩
      | none => exact absurd hmem (Mg.kGet_none.mp e)
    wtm_at "w"
    refine w_ixL (lst_ref gk2) had ?_
    wtm_at "w"
    refine w_lkK (dK_own gd2) rfl (by rw [valD_kv, hv]; rfl) ?_
    wtm_at "w"
    refine w_catT (by simp) ?_
    exact hN _ (by rw [hv]; rfl)
  · intro y hy
    have hyn := ho.fresh hy
    have e : (Mg.srtK kn).filterMap (fun h => some (TN [h, ((Mg.kGet kn h).getD (0, 0)).1, ((Mg.kGet kn h).getD (0, 0)).2])) = (Mg.srt kn).map fun q => TN [q.1, q.2.1, q.2.2] := by
      unfold Mg.srt
      rw [List.filterMap_eq_map', List.map_map]
      rfl
    rw [e]
    wtm_at "w"
    refine fin Q _ _ (ud G y _) (fun b hb => ud_ne (fun z => hyn (z ▸ hb))) (fun b x hb hx => ?_) (fun b hb => ud_ne (fun z => hyn (z ▸ hb))) (q y (hn y hy))
    by_cases e : b = y
    · rw [e, ud_same] at hx ⊢
      exact hx
    · rw [ud_ne e] at hx ⊢
      rw [hout b hb]
      exact hx
end Dg
namespace Dg
open PySem PySem.Spec L2
local macro_rules | `(tactic| wtm_at "ne") => `(tactic| first | assumption | (apply Ne.symm; assumption) | (grind [ud, er]))
local macro_rules | `(tactic| wtm_at "lk") => `(tactic| first | (with_reducible assumption) | (with_reducible exact ud_same) | ((with_reducible refine (ud_ne (by wtm_at "ne")).trans ?_); wtm_at "lk"))
local macro_rules | `(tactic| wtm_at "gl") => `(tactic| first | (with_reducible assumption) | (with_reducible exact lst_ref (by wtm_at "lk")) | (with_reducible exact lstOf_new (by assumption) (by assumption)) | (with_unfolding_all exact rfl))
local macro_rules | `(tactic| wtm_at "vl") => `(tactic| first | (with_reducible exact val_ref (by wtm_at "lk")) | (with_unfolding_all exact rfl))
local macro_rules | `(tactic| wtm_at "dk") => `(tactic| with_reducible first | exact dK_own (by wtm_at "lk") | exact dK_lk (by wtm_at "lk") | exact dT_own (by wtm_at "lk"))
local macro_rules | `(tactic| wtm_at "pl") => `(tactic| with_unfolding_all first | exact rfl | exact all_int _ | exact all_P2 _ | assumption)
local macro_rules | `(tactic| wtm_at "nn") => `(tactic| first | omega | decide | (simp only [List.length_cons, List.length_nil, List.length_map, List.length_append]; omega) | grind)
local macro_rules | `(tactic| wtm_at "st") => `(tactic| (simp only [stD, List.map_cons, List.map_nil, List.length_cons, List.length_nil, List.replicate, Nat.reduceAdd, Nat.reduceSub, List.cons_append, List.nil_append]))
local macro_rules | `(tactic| wtm_at "1") => `(tactic| with_reducible first
  | refine w_seq ?_ | refine w_asgN ?_ | refine w_asgS ?_ | refine w_asgT ?_ | refine w_ret ?_ | refine w_drop ?_ | refine w_ifS ?_ | refine w_test ?_ | refine w_next ?_
  | refine w_nx ?_ | refine w_nx0 ?_ | refine w_rt ?_ | refine w_bk ?_ | refine w_ct ?_
  | refine w_bl2 ?_ | refine w_and ?_ | refine w_or ?_ | refine w_not ?_ | refine w_andV ?_ | refine w_orV ?_ | refine w_notV ?_ | refine w_if ?_
  | (apply w_var; (· with_unfolding_all rfl)) | refine w_c ?_ | refine w_op ?_ | refine w_chain ?_ | refine w_nil ?_ | refine w_cons ?_ | refine w_tup ?_ | refine w_lst ?_
  | (apply w_len; (· wtm_at "nn")) | refine w_call ?_ | refine w_cb ?_ | refine w_isN ?_ | refine w_notN ?_ | refine w_fz ?_
  | refine w_add ?_ | refine w_sub ?_ | refine w_lt ?_ | refine w_le ?_ | refine w_gt ?_ | refine w_ge ?_ | (apply w_mod; (· wtm_at "nn")) | (apply w_div; (· wtm_at "nn"); (· wtm_at "nn"))
  | (apply w_eq; (· with_unfolding_all rfl)) | (apply w_ne; (· with_unfolding_all rfl))
  | (apply w_ixT; (· with_unfolding_all rfl)) | (apply w_ixL; (· wtm_at "gl"); (· with_unfolding_all rfl))
  | refine w_lenT ?_ | (apply w_lenL; (· wtm_at "gl")) | refine w_min2 ?_ | refine w_max2 ?_ | refine w_intB ?_ | (apply w_tupleL; (· wtm_at "gl"))
  | refine w_bm ?_ | refine w_bm0 ?_ | (apply w_ty; (· wtm_at "gl"))
  | (apply w_setL; (· wtm_at "lk"); (· with_unfolding_all rfl)) | (apply w_append; (· wtm_at "lk"); (· wtm_at "nn")) | (apply w_extend; (· wtm_at "lk"); (· wtm_at "gl"); (· wtm_at "nn"))
  | refine w_hcons ?_ | refine w_hnil ?_ | refine w_hname ?_ | (apply w_htup; (· with_unfolding_all rfl)) | (apply w_exT; (· with_unfolding_all rfl))
  | refine w_lcR1 ?_ | refine w_lcL ?_ | refine w_lcT ?_ | refine w_forR1 ?_ | refine w_forR2 ?_ | refine w_forL ?_ | refine w_forT ?_ | refine w_yes ?_ | refine w_cnm ?_ | (apply w_ctp; (· with_unfolding_all rfl))
  | (apply w_exL; (· wtm_at "gl")) | refine w_exTu ?_ | (apply w_exI; (· wtm_at "nn")) | (apply w_exI2; (· wtm_at "nn")) | refine w_exII ?_
  | refine w_lcK ?_ | refine w_fld ?_ | refine w_fldS ?_ | refine w_meth ?_ | refine w_make ?_ | (apply w_fldE; (· wtm_at "lk"); (· with_unfolding_all rfl)) | (apply w_fldSE; (· wtm_at "lk"); (· first | exact insF_lt | wtm_at "nn")) | (apply w_lenD; (· wtm_at "lk"))
  | refine w_disp ?_ | refine w_pnil ?_ | refine w_pcons ?_ | (apply w_dispE; (· wtm_at "lk"); (· with_unfolding_all rfl); (· wtm_at "nn"))
  | refine w_dget ?_ | refine w_din ?_ | refine w_dget1 ?_ | refine w_dput ?_ | refine w_dpop1 ?_ | refine w_lenSet ?_ | refine w_listRng ?_ | refine w_notInRng ?_
  | (apply w_inK; (· wtm_at "dk"); (· with_unfolding_all rfl)) | (apply w_inT; (· wtm_at "dk"); (· with_unfolding_all exact keyT_lit))
  | (apply w_isK; (· wtm_at "dk")) | (apply w_isT; (· wtm_at "dk"))
  | (apply w_putK; (· wtm_at "lk"); (· with_unfolding_all rfl); (· wtm_at "nn")) | (apply w_putT; (· wtm_at "lk"); (· with_unfolding_all exact keyT_lit); (· wtm_at "nn")))
local macro_rules | `(tactic| wtm_at "bb") => `(tactic| (simp only [isN, Bool.not_true, Bool.not_false, Bool.or_true, Bool.true_or, Bool.or_false, Bool.false_or, Bool.xor_true, Bool.xor_false]; done))
local macro_rules | `(tactic| wtm_at "kt") => `(tactic| with_reducible first | exact kb_tu_tu | exact kb_tu_li | exact kb_tu_bo | exact kb_tu_st | exact kb_tu_in | exact kb_li_tu | exact kb_li_li | exact kb_li_bo | exact kb_li_st | exact kb_li_in | exact kb_No_tu | exact kb_No_li | exact kb_No_bo | exact kb_No_st | exact kb_No_in | exact kb_bo_tu | exact kb_bo_li | exact kb_bo_bo | exact kb_bo_st | exact kb_bo_in | exact kb_in_tu | exact kb_in_li | exact kb_in_bo | exact kb_in_st | exact kb_in_in | exact kb_st_tu | exact kb_st_li | exact kb_st_bo | exact kb_st_st | exact kb_st_in)
local macro_rules | `(tactic| wtm_at "ty") => `(tactic| first | assumption | exact ty_ref (by wtm_at "lk") | (with_unfolding_all exact rfl))
local macro_rules | `(tactic| wtm_at "x") => `(tactic| with_reducible first
  | (apply w_taken; (· wtm_at "lk"); (· wtm_at "nn"); (· wtm_at "nn")) | (apply w_eqD; (· wtm_at "vl"); (· wtm_at "vl"); (· wtm_at "pl"); (· wtm_at "pl")) | (apply w_neD; (· wtm_at "vl"); (· wtm_at "vl"); (· wtm_at "pl"); (· wtm_at "pl"))
  | (apply vR_row; (· assumption)) | (refine vR_frz (by assumption) ?_) | refine frz_let ?_ | refine w_isi ?_ | refine w_isi2 ?_ | (apply w_isiE; (· wtm_at "ty"); (· wtm_at "kt")) | (apply w_isiE2; (· wtm_at "ty"); (· wtm_at "kt"); (· wtm_at "kt"))
  | refine w_iteT rfl ?_ | refine w_iteF rfl ?_ | (apply w_iteT; (· wtm_at "bb")) | (apply w_iteF; (· wtm_at "bb")))
local macro_rules | `(tactic| wtm_at "w") => `(tactic| repeat (first | wtm_at "1" | wtm_at "x"))
theorem putF_now {t : Nt} {st : Mg.NS} {i : Int} : putFD "now" (.int i) (insF t st) = insF t { st with now := i } := rfl
theorem w_need_place {K : PySem.W.Frag} {a dx e : Addr} {h n : Int} {p : Int × Int} {fs : List (Str × D)} {ls : List Mg.Lk} {G : Gp} {Q : DK} (h1 : G a = some (.sm (.ins (cN K) dx fs))) (h2 : fs.lookup ("web" : Str) = some (webD n ls)) (h3 : fs.lookup ("ends" : Str) = some (.ref e)) (h4 : G e = some (.sm (.dT (endsT ls)))) (h5 : PlOk n ls p) (q : Q .non G) : sp_N_need_place K [.ref a, .int h, P2 p] G Q := ⟨a, h, p, dx, fs, n, ls, e, rfl, h1, h2, h3, h4, h5, q⟩
theorem r_N_move {K : PySem.W.Frag} : Rd 4 (b_N_move K) (sp_N_move K) := by
  rintro _ G Q ⟨a, st, t, h, p, rfl, hga, hok, h0, h1, h2, h3, hp, q⟩ F H σ is hg
  obtain ⟨th, G1, rfl, ho, hg1, hout, hfree⟩ := net_open hg hga
  refine ⟨F, _, G1, Ext.refl F H, is, hg1, ?_⟩
  wtm_at "st"
  unfold b_N_move
  have ga := ho.ga
  have hv : NetV K G1 th.a st := .inr ⟨th, rfl, ho⟩
  wtm_at "w"
  refine w_methE (netV_ins hv fun _ => rfl) ?_
  wtm_at "w"
  refine w_need_time hv h0 h1 ?_
  wtm_at "w"
  refine w_methE (netV_ins hv fun _ => rfl) ?_
  wtm_at "w"
  refine w_need_host hv h2 h3 ?_
  wtm_at "w"
  refine w_methE (netV_ins hv fun _ => rfl) ?_
  wtm_at "w"
  refine w_need_place ho.ga insF_web insF_ends ho.ge hp ?_
  wtm_at "w"
  rw [putF_now]
  have ho2 := ho.setI { st with now := t } rfl rfl rfl
  have hag : ∀ b, b ∉ th.ads → ud G1 th.a (.sm (.ins (cN K) th.dx (insF th { st with now := t }))) b = G b := fun b hb => by
    rw [ud_ne (fun z => hb (by rw [z]; exact List.mem_cons_self ..))]
    exact hout b hb
  generalize ud G1 th.a (.sm (.ins (cN K) th.dx (insF th { st with now := t }))) = G2 at *
  have ga2 := ho2.ga
  have gs2 := ho2.gs
  wtm_at "w"
  refine w_setL gs2 (ixN_pos h2 (by rw [List.length_map]; exact h3)) ?_
  wtm_at "w"
  have ho3 := ho2.setS (st.spots.set h.toNat p)
  rw [List.map_set] at ho3
  refine vR_to (fun F' H' g' => net_shut (G := G) g' ho3 rfl hfree fun b x hb hx => ?_) q
  rw [ud_ne (fun z => hb (by rw [z]; simp [Nt.ads])), hag b hb]
  exact hx
theorem outs_ok {st : Mg.NS} (hok : NOk st) {b d : Int} {to : Option Int} {t : Int} (hb0 : 0 ≤ b) (hb1 : b < st.n) : (Mg.outsF st b d to t).length ≤ 4 := by
  unfold Mg.outsF
  split
  · exact List.length_filter_le (l := [0, 1, 2, 3]) _
  · split <;> simp
theorem hosts_len {st : Mg.NS} {p : Int × Int} : (Mg.hostsF st p).length ≤ st.spots.length := by
  unfold Mg.hostsF
  rw [List.length_map]
  have := List.length_filter_le (fun i => decide (st.spots[i]? = some p)) (List.range st.spots.length)
  rwa [List.length_range] at this
theorem endsF_eq (ls : List Mg.Lk) : (Mg.endsF ls).map (·.1) = endsL ls := by
  unfold Mg.endsF endsL
  rw [List.map_flatMap]
  rfl
theorem eGet_mem {ls : List Mg.Lk} {p q : Int × Int} (h : Mg.eGet ls p = some q) : (p, q) ∈ Mg.endsF ls := by
  unfold Mg.eGet at h
  rw [Option.map_eq_some_iff] at h
  obtain ⟨r, h1, h2⟩ := h
  have m1 := List.mem_of_find?_eq_some h1
  have m2 : r.1 = p := by simpa using List.find?_some h1
  obtain ⟨r1, r2⟩ := r
  cases m2
  cases h2
  exact m1
/-- the other end is a box's door -/
theorem eGet_ok {n : Int} {ls : List Mg.Lk} (hw : WebOk n ls) {p q : Int × Int} (h : Mg.eGet ls p = some q) : 0 ≤ q.1 ∧ q.1 < n ∧ 0 ≤ q.2 ∧ q.2 < 4 := by
  have hm := eGet_mem h
  unfold Mg.endsF at hm
  obtain ⟨l, hl, hm⟩ := List.mem_flatMap.mp hm
  obtain ⟨k1, k2, k3, k4, k5, k6, k7, k8, k9⟩ := hw.ok l hl
  simp only [List.mem_cons, List.not_mem_nil, or_false] at hm
  rcases hm with z | z
  · cases z
    exact ⟨k4, k5, k8, k9⟩
  · cases z
    exact ⟨k2, k3, k6, k7⟩
def BxOk (n : Int) (p : Int × Int) : Prop := 0 ≤ p.1 ∧ p.1 < n ∧ 0 ≤ p.2 ∧ p.2 < 4
theorem learnK_ok {hosts room now : Int} {kn : Mg.Kn} (hk : KnOk hosts room now kn) {h d t : Int} (r1 : 1 ≤ room) (h0 : 0 ≤ h) (h1 : h < hosts) (d0 : 0 ≤ d) (d4 : d < 4) (t0 : 0 ≤ t) (ht : t ≤ now) : KnOk hosts room now (Mg.learnK room kn h d t) := by
  obtain ⟨n1, n2, n3⟩ := hk
  have put : ∀ kn' : Mg.Kn, (Mg.kKeys kn').Nodup → (∀ p ∈ kn', p ∈ kn) → (h ∉ Mg.kKeys kn' → (kn'.length : Int) + 1 ≤ room) → (kn'.length : Int) ≤ room → KnOk hosts room now (Mg.kPut kn' h (d, t)) := fun kn' m1 m2 m3 m4 => by
    refine ⟨?_, ?_, ?_⟩
    · rw [Mg.kPut_keys]
      split
      · exact m1
      · rename_i hn
        rw [List.nodup_append]
        exact ⟨m1, by simp, by simp only [List.mem_singleton]; rintro a ha b rfl rfl; exact hn ha⟩
    · have e : (Mg.kPut kn' h (d, t)).length = (Mg.kKeys (Mg.kPut kn' h (d, t))).length := by simp [Mg.kKeys]
      rw [e, Mg.kPut_keys]
      have e2 : (Mg.kKeys kn').length = kn'.length := by simp [Mg.kKeys]
      split
      · omega
      · rename_i hn
        rw [List.length_append]
        simp
        have := m3 hn
        omega
    · intro p hp
      unfold Mg.kPut at hp
      split at hp
      · obtain ⟨q, hq, rfl⟩ := List.mem_map.mp hp
        have := n3 q (m2 q hq)
        split
        · dsimp only
          omega
        · exact this
      · rcases List.mem_append.mp hp with z | z
        · exact n3 p (m2 p z)
        · simp only [List.mem_singleton] at z
          subst z
          exact ⟨h0, h1, d0, d4, t0, ht⟩
  unfold Mg.learnK
  split
  · rename_i c
    have hne : kn ≠ [] := fun z => by rw [z] at c; simp at c; omega
    refine put _ ?_ (fun p hp => (List.mem_filter.mp hp).1) (fun _ => ?_) ?_
    · rw [Mg.kDrop_keys]
      exact n1.filter _
    · have hold : ∃ p ∈ kn, p.1 = Mg.oldest kn := by
        unfold Mg.oldest
        cases e : kn.map fun p => ((p.2.2, p.1) : Int × Int) with
        | nil => simp at e; exact absurd e hne
        | cons r rs =>
          dsimp only
          have hm : ∀ (rs : List (Int × Int)) (r : Int × Int), Mg.minF rs r ∈ r :: rs := fun rs => by
            induction rs with
            | nil => intro r; simp [Mg.minF]
            | cons s rs ih =>
              intro r
              rw [Mg.minF]
              have := ih (if Mg.ltP s r then s else r)
              by_cases c : Mg.ltP s r
              · rw [if_pos c] at this ⊢
                exact List.mem_cons_of_mem _ this
              · rw [if_neg c] at this ⊢
                rcases List.mem_cons.mp this with z | z
                · rw [z]; simp
                · simp [z]
          have hmm := hm rs r
          rw [← e] at hmm
          obtain ⟨p, hp, he⟩ := List.mem_map.mp hmm
          exact ⟨p, hp, by rw [← he]⟩
      obtain ⟨p, hp, he⟩ := hold
      have : (Mg.kDrop kn (Mg.oldest kn)).length < kn.length := by
        unfold Mg.kDrop
        exact List.length_filter_lt_length_iff_exists.mpr ⟨p, hp, by simp [he]⟩
      omega
    · have := List.length_filter_le (fun p : Int × (Int × Int) => decide (p.1 ≠ Mg.oldest kn)) kn
      unfold Mg.kDrop
      omega
  · rename_i c
    refine put _ n1 (fun _ h => h) (fun hn => ?_) n2
    have : (kn.length : Int) ≠ room := fun z => c ⟨by rw [Mg.kGet_none.mpr hn]; rfl, z⟩
    omega
theorem learnF_ok {st : Mg.NS} (hok : NOk st) {b h d t : Int} (b0 : 0 ≤ b) (b1 : b < st.n) (h0 : 0 ≤ h) (h1 : h < st.spots.length) (d0 : 0 ≤ d) (d4 : d < 4) (ht : t = st.now) : NOk (Mg.learnF st b h d t) := by
  have hkl := hok.kl
  have hb : b < st.known.length := by omega
  have hkn := kn_at b0 hb
  have t0 := hok.t0
  refine ⟨hok.web, hok.a0, hok.a20, hok.r1, hok.r8, hok.h1, hok.h8, hok.pl, ?_, fun kn hk => ?_, hok.t0, hok.t1000⟩
  · show (((st.known.set b.toNat _).length : Nat) : Int) = st.n
    rw [List.length_set]
    exact hkl
  · rcases List.mem_or_eq_of_mem_set hk with z | z
    · exact hok.kn kn z
    · rw [z]
      exact learnK_ok (hok.kn _ (List.mem_of_getElem? hkn)) hok.r1 h0 h1 d0 d4 (by omega) (by show t ≤ st.now; omega)
end Dg
namespace Dg
open PySem PySem.Spec L2
local macro_rules | `(tactic| wtm_at "ne") => `(tactic| first | assumption | (apply Ne.symm; assumption) | (grind [ud, er]))
local macro_rules | `(tactic| wtm_at "lk") => `(tactic| first | (with_reducible assumption) | (with_reducible exact ud_same) | ((with_reducible refine (ud_ne (by wtm_at "ne")).trans ?_); wtm_at "lk"))
local macro_rules | `(tactic| wtm_at "gl") => `(tactic| first | (with_reducible assumption) | (with_reducible exact lst_ref (by wtm_at "lk")) | (with_reducible exact lstOf_new (by assumption) (by assumption)) | (with_unfolding_all exact rfl))
local macro_rules | `(tactic| wtm_at "vl") => `(tactic| first | (with_reducible exact val_ref (by wtm_at "lk")) | (with_unfolding_all exact rfl))
local macro_rules | `(tactic| wtm_at "dk") => `(tactic| with_reducible first | exact dK_own (by wtm_at "lk") | exact dK_lk (by wtm_at "lk") | exact dT_own (by wtm_at "lk"))
local macro_rules | `(tactic| wtm_at "pl") => `(tactic| with_unfolding_all first | exact rfl | exact all_int _ | exact all_P2 _ | assumption)
local macro_rules | `(tactic| wtm_at "nn") => `(tactic| first | omega | decide | (simp only [List.length_cons, List.length_nil, List.length_map, List.length_append]; omega) | grind)
local macro_rules | `(tactic| wtm_at "st") => `(tactic| (simp only [stD, List.map_cons, List.map_nil, List.length_cons, List.length_nil, List.replicate, Nat.reduceAdd, Nat.reduceSub, List.cons_append, List.nil_append]))
local macro_rules | `(tactic| wtm_at "1") => `(tactic| with_reducible first
  | refine w_seq ?_ | refine w_asgN ?_ | refine w_asgS ?_ | refine w_asgT ?_ | refine w_ret ?_ | refine w_drop ?_ | refine w_ifS ?_ | refine w_test ?_ | refine w_next ?_
  | refine w_nx ?_ | refine w_nx0 ?_ | refine w_rt ?_ | refine w_bk ?_ | refine w_ct ?_
  | refine w_bl2 ?_ | refine w_and ?_ | refine w_or ?_ | refine w_not ?_ | refine w_andV ?_ | refine w_orV ?_ | refine w_notV ?_ | refine w_if ?_
  | (apply w_var; (· with_unfolding_all rfl)) | refine w_c ?_ | refine w_op ?_ | refine w_chain ?_ | refine w_nil ?_ | refine w_cons ?_ | refine w_tup ?_ | refine w_lst ?_
  | (apply w_len; (· wtm_at "nn")) | refine w_call ?_ | refine w_cb ?_ | refine w_isN ?_ | refine w_notN ?_ | refine w_fz ?_
  | refine w_add ?_ | refine w_sub ?_ | refine w_lt ?_ | refine w_le ?_ | refine w_gt ?_ | refine w_ge ?_ | (apply w_mod; (· wtm_at "nn")) | (apply w_div; (· wtm_at "nn"); (· wtm_at "nn"))
  | (apply w_eq; (· with_unfolding_all rfl)) | (apply w_ne; (· with_unfolding_all rfl))
  | (apply w_ixT; (· with_unfolding_all rfl)) | (apply w_ixL; (· wtm_at "gl"); (· with_unfolding_all rfl))
  | refine w_lenT ?_ | (apply w_lenL; (· wtm_at "gl")) | refine w_min2 ?_ | refine w_max2 ?_ | refine w_intB ?_ | (apply w_tupleL; (· wtm_at "gl"))
  | refine w_bm ?_ | refine w_bm0 ?_ | (apply w_ty; (· wtm_at "gl"))
  | (apply w_setL; (· wtm_at "lk"); (· with_unfolding_all rfl)) | (apply w_append; (· wtm_at "lk"); (· wtm_at "nn")) | (apply w_extend; (· wtm_at "lk"); (· wtm_at "gl"); (· wtm_at "nn"))
  | refine w_hcons ?_ | refine w_hnil ?_ | refine w_hname ?_ | (apply w_htup; (· with_unfolding_all rfl)) | (apply w_exT; (· with_unfolding_all rfl))
  | refine w_lcR1 ?_ | refine w_lcL ?_ | refine w_lcT ?_ | refine w_forR1 ?_ | refine w_forR2 ?_ | refine w_forL ?_ | refine w_forT ?_ | refine w_yes ?_ | refine w_cnm ?_ | (apply w_ctp; (· with_unfolding_all rfl))
  | (apply w_exL; (· wtm_at "gl")) | refine w_exTu ?_ | (apply w_exI; (· wtm_at "nn")) | (apply w_exI2; (· wtm_at "nn")) | refine w_exII ?_
  | refine w_lcK ?_ | refine w_fld ?_ | refine w_fldS ?_ | refine w_meth ?_ | refine w_make ?_ | (apply w_fldE; (· wtm_at "lk"); (· with_unfolding_all rfl)) | (apply w_fldSE; (· wtm_at "lk"); (· first | exact insF_lt | (with_unfolding_all exact Nat.le_of_ble_eq_true rfl) | wtm_at "nn")) | (apply w_lenD; (· wtm_at "lk"))
  | refine w_disp ?_ | refine w_pnil ?_ | refine w_pcons ?_ | (apply w_dispE; (· wtm_at "lk"); (· with_unfolding_all rfl); (· wtm_at "nn"))
  | refine w_dget ?_ | refine w_din ?_ | refine w_dget1 ?_ | refine w_dput ?_ | refine w_dpop1 ?_ | refine w_lenSet ?_ | refine w_listRng ?_ | refine w_notInRng ?_
  | (apply w_inK; (· wtm_at "dk"); (· with_unfolding_all rfl)) | (apply w_inT; (· wtm_at "dk"); (· with_unfolding_all exact keyT_lit))
  | (apply w_lkK; (· wtm_at "dk"); (· with_unfolding_all rfl); (· first | exact lv_web | exact lv_age | exact lv_room | exact lv_spots | exact lv_known | exact lv_time)) | (apply w_isK; (· wtm_at "dk")) | (apply w_isT; (· wtm_at "dk"))
  | (apply w_putK; (· wtm_at "lk"); (· with_unfolding_all rfl); (· wtm_at "nn")) | (apply w_putT; (· wtm_at "lk"); (· with_unfolding_all exact keyT_lit); (· wtm_at "nn")))
local macro_rules | `(tactic| wtm_at "bb") => `(tactic| (simp only [isN, Bool.not_true, Bool.not_false, Bool.or_true, Bool.true_or, Bool.or_false, Bool.false_or, Bool.xor_true, Bool.xor_false]; done))
local macro_rules | `(tactic| wtm_at "kt") => `(tactic| with_reducible first | exact kb_tu_tu | exact kb_tu_li | exact kb_tu_bo | exact kb_tu_st | exact kb_tu_in | exact kb_li_tu | exact kb_li_li | exact kb_li_bo | exact kb_li_st | exact kb_li_in | exact kb_No_tu | exact kb_No_li | exact kb_No_bo | exact kb_No_st | exact kb_No_in | exact kb_bo_tu | exact kb_bo_li | exact kb_bo_bo | exact kb_bo_st | exact kb_bo_in | exact kb_in_tu | exact kb_in_li | exact kb_in_bo | exact kb_in_st | exact kb_in_in | exact kb_st_tu | exact kb_st_li | exact kb_st_bo | exact kb_st_st | exact kb_st_in)
local macro_rules | `(tactic| wtm_at "ty") => `(tactic| first | assumption | exact ty_ref (by wtm_at "lk") | (with_unfolding_all exact rfl))
local macro_rules | `(tactic| wtm_at "x") => `(tactic| with_reducible first
  | (apply w_taken; (· wtm_at "lk"); (· wtm_at "nn"); (· wtm_at "nn")) | (apply w_eqD; (· wtm_at "vl"); (· wtm_at "vl"); (· wtm_at "pl"); (· wtm_at "pl")) | (apply w_neD; (· wtm_at "vl"); (· wtm_at "vl"); (· wtm_at "pl"); (· wtm_at "pl"))
  | (apply vR_row; (· assumption)) | (refine vR_frz (by assumption) ?_) | refine frz_let ?_ | refine w_isi ?_ | refine w_isi2 ?_ | (apply w_isiE; (· wtm_at "ty"); (· wtm_at "kt")) | (apply w_isiE2; (· wtm_at "ty"); (· wtm_at "kt"); (· wtm_at "kt"))
  | refine w_iteT rfl ?_ | refine w_iteF rfl ?_ | (apply w_iteT; (· wtm_at "bb")) | (apply w_iteF; (· wtm_at "bb")))
local macro_rules | `(tactic| wtm_at "w") => `(tactic| repeat (first | wtm_at "1" | wtm_at "x"))
theorem w_hosts_at {K : PySem.W.Frag} {a : Addr} {st : Mg.NS} {p : Int × Int} {G : Gp} {Q : DK} (hv : NetV K G a st) (h8 : st.spots.length ≤ 8) (q : Q (.lst ((Mg.hostsF st p).map D.int)) G) : sp_N_hosts_at K [.ref a, P2 p] G Q := ⟨a, st, p, rfl, hv, h8, q⟩
theorem w_need_letter {K : PySem.W.Frag} {a : Addr} {st : Mg.NS} {t h : Int} {to : Option Int} {G : Gp} {Q : DK} (hv : NetV K G a st) (hl : LtOk st t h to) (q : Q .non G) : sp_N_need_letter K [.ref a, .int t, .int h, optD to] G Q := ⟨a, st, t, h, to, rfl, hv, hl, q⟩
theorem w_doors_out {K : PySem.W.Frag} {a : Addr} {st : Mg.NS} {b d t : Int} {to : Option Int} {G : Gp} {Q : DK} (hv : NetV K G a st) (h0 : 0 ≤ b) (h1 : b < st.known.length) (q : Q (.lst ((Mg.outsF st b d to t).map D.int)) G) : sp_N_doors_out K [.ref a, .int b, .int d, optD to, .int t] G Q := ⟨a, st, b, d, to, t, rfl, hv, h0, h1, q⟩
theorem spot_at {st : Mg.NS} {h : Int} (h0 : 0 ≤ h) (h1 : h < st.spots.length) : atI (st.spots.map P2) h = some (P2 (Mg.spotF st h)) ∧ Mg.spotF st h ∈ st.spots := by
  have hl : h.toNat < st.spots.length := by omega
  unfold Mg.spotF
  rw [List.getD_eq_getElem?_getD, List.getElem?_eq_getElem hl]
  refine ⟨?_, List.getElem_mem hl⟩
  rw [atI_pos h0 (by rw [List.length_map]; omega), List.getElem?_map, List.getElem?_eq_getElem hl]
  rfl
theorem foldl_snoc {α β : Type} (f : α → β → α) (x : β) (xs : List β) (a : α) : (xs ++ [x]).foldl f a = f (xs.foldl f a) x := by rw [List.foldl_append]; rfl
theorem r_N_send {K : PySem.W.Frag} : Rd 11 (b_N_send K) (sp_N_send K) := by
  rintro _ G Q ⟨a, st, t, h, to, rfl, hga, hok, hlt, q⟩ F H σ is hg
  obtain ⟨th, G1, rfl, ho, hg1, hout, hfree⟩ := net_open hg hga
  refine ⟨F, _, G1, Ext.refl F H, is, hg1, ?_⟩
  wtm_at "st"
  unfold b_N_send
  have ga := ho.ga
  have hv : NetV K G1 th.a st := .inr ⟨th, rfl, ho⟩
  obtain ⟨l0, l1, l2, l3, l4⟩ := hlt
  have hlt : LtOk st t h to := ⟨l0, l1, l2, l3, l4⟩
  wtm_at "w"
  refine w_methE (netV_ins hv fun _ => rfl) ?_
  wtm_at "w"
  refine w_need_letter hv hlt ?_
  wtm_at "w"
  rw [putF_now]
  have ho2 := ho.setI { st with now := t } rfl rfl rfl
  have hag : ∀ b, b ∉ th.ads → ud G1 th.a (.sm (.ins (cN K) th.dx (insF th { st with now := t }))) b = G b := fun b hb => by
    rw [ud_ne (fun z => hb (by rw [z]; exact List.mem_cons_self ..))]
    exact hout b hb
  generalize ud G1 th.a (.sm (.ins (cN K) th.dx (insF th { st with now := t }))) = G2 at *
  have ht0 := hok.t0
  have hok2 : NOk { st with now := t } := ⟨hok.web, hok.a0, hok.a20, hok.r1, hok.r8, hok.h1, hok.h8, hok.pl, hok.kl, fun kn hk => by
    obtain ⟨n1, n2, n3⟩ := hok.kn kn hk
    exact ⟨n1, n2, fun p hp => let ⟨a, b, c, d, e, f⟩ := n3 p hp; ⟨a, b, c, d, e, by show p.2.2 ≤ t; omega⟩⟩, by show 0 ≤ t; omega, l1⟩
  have h8 := hok.h8
  have h08 : ({ st with now := t } : Mg.NS).spots.length ≤ 8 := h8
  obtain ⟨sp1, sp2⟩ := spot_at l2 l3
  have spo := hok.pl _ sp2
  have ga2 := ho2.ga
  have gs2 := ho2.gs
  have hv2 : NetV K G2 th.a { st with now := t } := .inr ⟨th, rfl, ho2⟩
  wtm_at "w"
  refine w_methE (netV_ins hv2 fun _ => rfl) ?_
  wtm_at "w"
  refine w_ixL (lst_ref gs2) sp1 ?_
  wtm_at "w"
  refine w_hosts_at hv2 h08 ?_
  wtm_at "w"
  refine lc_over (fun o => if o ≠ h then some (.int o) else none) ?_ (fun _ _ _ => rfl) ?_ ?_
  · have := hosts_len (st := { st with now := t }) (p := Mg.spotF st h)
    omega
  · rintro o y acc N M hh hy hN hM
    wtm_at "w"
    refine w_ite (fun c => ?_) (fun c => ?_)
    · wtm_at "w"
      exact hN _ (if_pos (by simpa using c))
    · exact hM (if_neg (by simpa using c))
  · intro pg hpg
    have hgn := ho2.fresh hpg
    have ho3 := ho2.new (x := .sm (.lst ((Mg.hostsF { st with now := t } (Mg.spotF st h)).filterMap fun o => if o ≠ h then some (.int o) else none))) hpg
    have ga3 := ho3.ga
    have gs3 := ho3.gs
    wtm_at "w"
    refine w_ixL (lst_ref gs3) sp1 ?_
    wtm_at "w"
    intro pw hpw
    have hwn := ho3.fresh hpw
    have hwg : pw ≠ pg := fun z => by rw [z, ud_same] at hpw; cases hpw
    wtm_at "w"
    have egot : ((Mg.hostsF { st with now := t } (Mg.spotF st h)).filterMap fun o => if o ≠ h then some (D.int o) else none) = (Mg.ltr0 st t h).got.map D.int := by
      rw [fm_if (fun o => o ≠ h) D.int]
      rfl
    rw [egot]
    have hpg0 : G pg = none := by rw [← hag pg hgn]; exact hpg
    have hpw0 : G pw = none := by rw [← hag pw hwn]; rw [ud_ne hwg] at hpw; exact hpw
    clear hpw ho3 ga3 gs3
    have fin : ∀ (g : Gp) (c : Mg.Ltr), NetO K g th c.st → g pg = some (.sm (.lst (c.got.map D.int))) → (∀ b, b ∉ th.ads → b ≠ pg → b ≠ pw → g b = G b) → c = Mg.sendF st t h to → vRt Q (.tup [.bl (decide (c.w = [])), .ref pg, .int c.steps]) g := fun g c f1 f2 f3 f4 => by
      have hne : pg ≠ th.a := fun z => hgn (by rw [z]; exact List.mem_cons_self ..)
      refine vR_to (fun F' H' g' => ?_) (q pg hpg0 c f4)
      rw [← ud_comm hne]
      refine net_shut g' f1 rfl (fun b hb hne => ?_) fun b x hb hx => ?_
      · have hbg : b ≠ pg := fun z => hgn (z ▸ hb)
        rw [ud_ne hbg]
        exact hfree b hb hne
      · by_cases e : b = pg
        · rw [e, ud_same] at hx
          rw [e, f2]
          exact hx
        · rw [ud_ne e] at hx
          rw [f3 b hb e (fun z => by rw [z, hpw0] at hx; cases hx)]
          exact hx
    let S : Gp × Mg.Ltr → DSt := fun a => [some (.ref th.a), some (.int t), some (.int h), some (optD to), some (.ref pg), none, some (.ref pw), some (.int a.2.steps), none, none, none]
    obtain ⟨GI, hGI⟩ : ∃ g, g = ud (ud G2 pg (.sm (.lst ((Mg.ltr0 st t h).got.map D.int)))) pw (.sm (.lst [P2 (Mg.spotF st h)])) := ⟨_, rfl⟩
    have i1 : NetO K GI th (Mg.ltr0 st t h).st := by rw [hGI]; exact (ho2.frame hgn).frame hwn
    have i2 : GI pg = some (.sm (.lst ((Mg.ltr0 st t h).got.map D.int))) := by rw [hGI]; exact (ud_ne (Ne.symm hwg)).trans ud_same
    have i3 : GI pw = some (.sm (.lst ((Mg.ltr0 st t h).w.map P2))) := by rw [hGI]; exact ud_same
    have i4 : ∀ b, b ∉ th.ads → b ≠ pg → b ≠ pw → GI b = G b := fun b hb h1 h2 => by
      rw [hGI, ud_ne h2, ud_ne h1]
      exact hag b hb
    rw [← hGI]
    clear hGI
    refine while_st (fun m a => NetO K a.1 th a.2.st ∧ NOk a.2.st ∧ (a.2.st.now = t ∧ a.2.st.spots = st.spots ∧ a.2.st.n = st.n ∧ a.2.st.ls = st.ls) ∧ a.1 pg = some (.sm (.lst (a.2.got.map D.int))) ∧ a.1 pw = some (.sm (.lst (a.2.w.map P2))) ∧ (∀ b, b ∉ th.ads → b ≠ pg → b ≠ pw → a.1 b = G b) ∧ (∀ p ∈ a.2.w, BxOk st.n p) ∧ 0 ≤ a.2.steps ∧ (m : Int) + a.2.steps = 60 ∧ Mg.goF h to t m a.2 = Mg.sendF st t h to ∧ (a.2.w.length : Int) ≤ 1 + 4 * a.2.steps ∧ (a.2.got.length : Int) ≤ 8 + 40 * a.2.steps) S (fun a => a.1) 60 (GI, Mg.ltr0 st t h) ⟨i1, hok2, ⟨rfl, rfl, rfl, rfl⟩, i2, i3, i4, ?_, by simp [Mg.ltr0], by simp [Mg.ltr0], rfl, by simp [Mg.ltr0], ?_⟩ rfl rfl ?_
    · simp only [Mg.ltr0, List.mem_singleton]
      rintro p rfl
      exact ⟨spo.b0, spo.bn, spo.d0, spo.d4⟩
    · have h1 := hosts_len (st := st) (p := Mg.spotF st h)
      have h2 := List.length_filter_le (fun o => decide (o ≠ h)) (Mg.hostsF st (Mg.spotF st h))
      show (((List.filter _ _).length : Nat) : Int) ≤ _
      simp only [Mg.ltr0]
      omega
    · rintro m ⟨g, c⟩ ⟨w1, w2, ⟨w3a, w3b, w3c, w3d⟩, w4, w5, w6, w7, w8, w9, w10, w11, w12⟩
      dsimp only at w1 w2 w3a w3b w3c w3d w4 w5 w6 w7 w8 w9 w10 w11 w12
      have hw8 : c.st.spots.length ≤ 8 := by rw [w3b]; exact h8
      wtm_at "w"
      intro bb hbb
      wtm_at "w"
      cases hcw : c.w with
      | nil =>
        have hbt : bb = true := hbb.mpr (by rw [hcw]; rfl)
        subst hbt
        refine w_iteF rfl ?_
        refine w_iteF rfl ?_
        wtm_at "w"
        intro b2 hb2
        wtm_at "w"
        have e1 : Mg.goF h to t m c = c := by
          cases m with
          | zero => rfl
          | succ m => rw [Mg.goF, if_pos hcw]
        rw [e1] at w10
        have hb2t : b2 = decide (c.w = []) := by rw [hb2.mpr (by rw [hcw]; rfl), hcw]; rfl
        rw [hb2t]
        exact fin g c w1 w4 w6 w10
      | cons p w' =>
        have hbf : bb = false := by
          cases bb with
          | false => rfl
          | true => have := hbb.mp rfl; rw [hcw] at this; simp at this
        subst hbf
        refine w_iteT rfl ?_
        wtm_at "w"
        refine w_ite (fun c2 => ?_) (fun c2 => ?_)
        · have hst : c.steps < 60 := of_decide_eq_true c2
          obtain ⟨m, rfl⟩ : ∃ m', m = m' + 1 := ⟨m - 1, by omega⟩
          have hpb := w7 p (by rw [hcw]; exact List.mem_cons_self ..)
          rw [hcw] at w5 w11
          have hwl : (w'.length : Int) + 1 ≤ 1 + 4 * c.steps := by simpa using w11
          wtm_at "w"
          refine w_popAt w5 (by decide) (by decide) rfl ?_
          rw [show ((p :: w').map P2).eraseIdx (Int.toNat 0) = w'.map P2 from rfl]
          wtm_at "w"
          have o1 := w1.frame (x := .sm (.lst (w'.map P2))) hwn
          refine w_methE (.inl ⟨_, _, o1.ga, rfl⟩) ?_
          wtm_at "w"
          refine ⟨th, c.st, p.1, h, p.2, t, rfl, o1, w2.T, hpb.1, by rw [w3c]; exact hpb.2.1, fun G3 o3 a3 => ?_⟩
          have ok3 : NOk (Mg.learnF c.st p.1 h p.2 t) := learnF_ok w2 hpb.1 (by rw [w3c]; exact hpb.2.1) l2 (by rw [w3b]; exact l3) hpb.2.2.1 hpb.2.2.2 w3a.symm
          have g3g : G3 pg = some (.sm (.lst (c.got.map D.int))) := by rw [a3 pg hgn, ud_ne (Ne.symm hwg)]; exact w4
          have g3w : G3 pw = some (.sm (.lst (w'.map P2))) := by rw [a3 pw hwn, ud_same]
          have g3o : ∀ b, b ∉ th.ads → b ≠ pg → b ≠ pw → G3 b = G b := fun b hb h1 h2 => by
            rw [a3 b hb, ud_ne h2]
            exact w6 b hb h1 h2
          have hstep : Mg.stepF h to t c = ⟨Mg.learnF c.st p.1 h p.2 t, ((Mg.outsF (Mg.learnF c.st p.1 h p.2 t) p.1 p.2 to t).foldl (Mg.outF (Mg.learnF c.st p.1 h p.2 t) p.1) (w', c.got)).1, ((Mg.outsF (Mg.learnF c.st p.1 h p.2 t) p.1 p.2 to t).foldl (Mg.outF (Mg.learnF c.st p.1 h p.2 t) p.1) (w', c.got)).2, c.steps + 1⟩ := by
            unfold Mg.stepF
            rw [hcw]
          have e3 : (Mg.learnF c.st p.1 h p.2 t).now = t ∧ (Mg.learnF c.st p.1 h p.2 t).spots = st.spots ∧ (Mg.learnF c.st p.1 h p.2 t).n = st.n ∧ (Mg.learnF c.st p.1 h p.2 t).ls = st.ls := ⟨w3a, w3b, w3c, w3d⟩
          rw [Mg.goF, if_neg (by rw [hcw]; simp), hstep] at w10
          generalize Mg.learnF c.st p.1 h p.2 t = st3 at *
          obtain ⟨e3a, e3b, e3c, e3d⟩ := e3
          have v3 : NetV K G3 th.a st3 := .inr ⟨th, rfl, o3⟩
          have kl3 := ok3.kl
          have hpk : p.1 < (st3.known.length : Int) := by rw [kl3, e3c]; exact hpb.2.1
          have hs8 : st3.spots.length ≤ 8 := by rw [e3b]; exact h8
          wtm_at "w"
          refine w_methE (netV_ins v3 fun _ => rfl) ?_
          wtm_at "w"
          refine w_doors_out v3 hpb.1 hpk ?_
          wtm_at "w"
          rw [List.length_map]
          have hol := outs_ok ok3 (d := p.2) (to := to) (t := t) hpb.1 (by rw [e3c]; exact hpb.2.1)
          generalize Mg.outsF st3 p.1 p.2 to t = outs at *
          let GG : List (Int × Int) × List Int → Gp := fun wg => ud (ud G3 pw (.sm (.lst (wg.1.map P2)))) pg (.sm (.lst (wg.2.map D.int)))
          have og : ∀ wg, NetO K (GG wg) th st3 := fun wg => (o3.frame hwn).frame hgn
          have gwg : ∀ wg, GG wg pw = some (.sm (.lst (wg.1.map P2))) := fun wg => (ud_ne hwg).trans ud_same
          refine for_st (fun i wg => wg = (outs.take i).foldl (Mg.outF st3 p.1) (w', c.got) ∧ wg.1.length ≤ w'.length + i ∧ wg.2.length ≤ c.got.length + 8 * i ∧ ∀ q ∈ wg.1, BxOk st.n q) (fun _ => [some (.ref th.a), some (.int t), some (.int h), some (optD to), some (.ref pg), none, some (.ref pw), some (.int (c.steps + 1)), some (.int p.1), some (.int p.2), none]) GG (w', c.got) ⟨rfl, by simp, by simp, fun q hq => w7 q (by rw [hcw]; exact List.mem_cons_of_mem _ hq)⟩ rfl ?_ (fun _ _ _ _ => rfl) ?_ ?_
          · show G3 = ud (ud G3 pw _) pg _
            rw [ud_self g3w, ud_self g3g]
          · rintro i d ⟨wl, gl⟩ hi hit ⟨z1, z2, z3, z4⟩
            dsimp only at z2 z3 z4
            obtain ⟨_, rfl⟩ := ints_at hit
            have hsn : (outs.take (i + 1)).foldl (Mg.outF st3 p.1) (w', c.got) = Mg.outF st3 p.1 (wl, gl) outs[i] := by
              rw [List.take_succ, List.getElem?_eq_getElem hi, z1]
              exact foldl_snoc _ _ _ _
            generalize outs[i] = o at *
            have ga4 := (og (wl, gl)).ga
            have ge4 := (og (wl, gl)).ge
            wtm_at "w"
            rw [valD_ends, Option.isSome_map, bx_f]
            unfold Mg.outF at hsn
            cases he : Mg.eGet st3.ls (p.1, o) with
            | some en =>
              rw [he] at hsn
              refine w_iteT rfl ?_
              wtm_at "w"
              refine w_lkT (dT_own ge4) keyT_lit (by rw [valD_ends, he]; rfl) ?_
              wtm_at "w"
              refine w_se (wl ++ [en], gl) ⟨hsn.symm, by simp; omega, by dsimp only; omega, fun q hq => ?_⟩ (.keep (.keep (.keep (.keep (.keep (.keep (.keep (.keep (.keep (.keep (.drop .refl))))))))))) ?_
              · rcases List.mem_append.mp hq with z | z
                · exact z4 q z
                · simp only [List.mem_singleton] at z
                  rw [z]
                  have := eGet_ok ok3.web he
                  rw [e3c] at this
                  exact this
              · show ud (ud (ud G3 pw _) pg _) pw _ = ud (ud G3 pw _) pg _
                rw [ud_comm (Ne.symm hwg), ud_ud, List.map_append]
                rfl
            | none =>
              rw [he] at hsn
              refine w_iteF rfl ?_
              wtm_at "w"
              refine w_methE (netV_ins (st := st3) (.inr ⟨th, rfl, og _⟩) fun _ => rfl) ?_
              wtm_at "w"
              refine w_hosts_at (p := (p.1, o)) (st := st3) (.inr ⟨th, rfl, og _⟩) hs8 ?_
              have hhl := hosts_len (st := st3) (p := (p.1, o))
              wtm_at "w"
              refine w_se (wl, gl ++ Mg.hostsF st3 (p.1, o)) ⟨hsn.symm, by dsimp only; omega, by simp; omega, z4⟩ (.keep (.keep (.keep (.keep (.keep (.keep (.keep (.keep (.keep (.keep (.drop .refl))))))))))) ?_
              show ud (ud (ud G3 pw _) pg _) pg _ = ud (ud G3 pw _) pg _
              rw [ud_ud, List.map_append]
          · rintro ⟨wl, gl⟩ ⟨z1, z2, z3, z4⟩
            rw [List.take_length] at z1
            dsimp only at z2 z3 z4
            rw [← z1] at w10
            wtm_at "w"
            refine w_st (GG (wl, gl), ⟨st3, wl, gl, c.steps + 1⟩) ⟨m, by omega, og _, ok3, ⟨e3a, e3b, e3c, e3d⟩, ud_same, gwg _, fun b hb h1 h2 => ?_, z4, by dsimp only; omega, by dsimp only; omega, w10, by dsimp only; omega, by dsimp only; omega⟩ (.keep (.keep (.keep (.keep (.keep (.keep (.keep (.keep (.drop (.drop (.drop .refl))))))))))) fun _ _ h => h
            show ud (ud G3 pw _) pg _ b = G b
            rw [ud_ne h1, ud_ne h2]
            exact g3o b hb h1 h2
        · have hst : ¬ c.steps < 60 := of_decide_eq_false c2
          have hm0 : m = 0 := by omega
          subst hm0
          wtm_at "w"
          intro b2 hb2
          wtm_at "w"
          have hb2t : b2 = decide (c.w = []) := by
            have : b2 = false := by
              cases b2 with
              | false => rfl
              | true => have := hb2.mp rfl; rw [hcw] at this; simp at this
            rw [this, hcw]
            rfl
          rw [hb2t]
          exact fin g c w1 w4 w6 w10
end Dg
namespace Dg
open PySem PySem.Spec L2
local macro_rules | `(tactic| wtm_at "ne") => `(tactic| first | assumption | (apply Ne.symm; assumption) | (grind [ud, er]))
local macro_rules | `(tactic| wtm_at "lk") => `(tactic| first | (with_reducible assumption) | (with_reducible exact ud_same) | ((with_reducible refine (ud_ne (by wtm_at "ne")).trans ?_); wtm_at "lk"))
local macro_rules | `(tactic| wtm_at "gl") => `(tactic| first | (with_reducible assumption) | (with_reducible exact lst_ref (by wtm_at "lk")) | (with_reducible exact lstOf_new (by assumption) (by assumption)) | (with_unfolding_all exact rfl))
local macro_rules | `(tactic| wtm_at "vl") => `(tactic| first | (with_reducible exact val_ref (by wtm_at "lk")) | (with_unfolding_all exact rfl))
local macro_rules | `(tactic| wtm_at "dk") => `(tactic| with_reducible first | exact dK_own (by wtm_at "lk") | exact dK_lk (by wtm_at "lk") | exact dT_own (by wtm_at "lk"))
local macro_rules | `(tactic| wtm_at "pl") => `(tactic| with_unfolding_all first | exact rfl | exact all_int _ | exact all_P2 _ | assumption)
local macro_rules | `(tactic| wtm_at "nn") => `(tactic| first | omega | decide | (simp only [List.length_cons, List.length_nil, List.length_map, List.length_append]; omega) | grind)
local macro_rules | `(tactic| wtm_at "st") => `(tactic| (simp only [stD, List.map_cons, List.map_nil, List.length_cons, List.length_nil, List.replicate, Nat.reduceAdd, Nat.reduceSub, List.cons_append, List.nil_append]))
local macro_rules | `(tactic| wtm_at "1") => `(tactic| with_reducible first
  | refine w_seq ?_ | refine w_asgN ?_ | refine w_asgS ?_ | refine w_asgT ?_ | refine w_ret ?_ | refine w_drop ?_ | refine w_ifS ?_ | refine w_test ?_ | refine w_next ?_
  | refine w_nx ?_ | refine w_nx0 ?_ | refine w_rt ?_ | refine w_bk ?_ | refine w_ct ?_
  | refine w_bl2 ?_ | refine w_and ?_ | refine w_or ?_ | refine w_not ?_ | refine w_andV ?_ | refine w_orV ?_ | refine w_notV ?_ | refine w_if ?_
  | (apply w_var; (· with_unfolding_all rfl)) | refine w_c ?_ | refine w_op ?_ | refine w_chain ?_ | refine w_nil ?_ | refine w_cons ?_ | refine w_tup ?_ | refine w_lst ?_
  | (apply w_len; (· wtm_at "nn")) | refine w_call ?_ | refine w_cb ?_ | refine w_isN ?_ | refine w_notN ?_ | refine w_fz ?_
  | refine w_add ?_ | refine w_sub ?_ | refine w_lt ?_ | refine w_le ?_ | refine w_gt ?_ | refine w_ge ?_ | (apply w_mod; (· wtm_at "nn")) | (apply w_div; (· wtm_at "nn"); (· wtm_at "nn"))
  | (apply w_eq; (· with_unfolding_all rfl)) | (apply w_ne; (· with_unfolding_all rfl))
  | (apply w_ixT; (· with_unfolding_all rfl)) | (apply w_ixL; (· wtm_at "gl"); (· with_unfolding_all rfl))
  | refine w_lenT ?_ | (apply w_lenL; (· wtm_at "gl")) | refine w_min2 ?_ | refine w_max2 ?_ | refine w_intB ?_ | (apply w_tupleL; (· wtm_at "gl"))
  | refine w_bm ?_ | refine w_bm0 ?_ | (apply w_ty; (· wtm_at "gl"))
  | (apply w_setL; (· wtm_at "lk"); (· with_unfolding_all rfl)) | (apply w_append; (· wtm_at "lk"); (· wtm_at "nn")) | (apply w_extend; (· wtm_at "lk"); (· wtm_at "gl"); (· wtm_at "nn"))
  | refine w_hcons ?_ | refine w_hnil ?_ | refine w_hname ?_ | (apply w_htup; (· with_unfolding_all rfl)) | (apply w_exT; (· with_unfolding_all rfl))
  | refine w_lcR1 ?_ | refine w_lcL ?_ | refine w_lcT ?_ | refine w_forR1 ?_ | refine w_forR2 ?_ | refine w_forL ?_ | refine w_forT ?_ | refine w_yes ?_ | refine w_cnm ?_ | (apply w_ctp; (· with_unfolding_all rfl))
  | (apply w_exL; (· wtm_at "gl")) | refine w_exTu ?_ | (apply w_exI; (· wtm_at "nn")) | (apply w_exI2; (· wtm_at "nn")) | refine w_exII ?_
  | refine w_lcK ?_ | refine w_fld ?_ | refine w_fldS ?_ | refine w_meth ?_ | refine w_make ?_ | (apply w_fldE; (· wtm_at "lk"); (· with_unfolding_all rfl)) | (apply w_fldSE; (· wtm_at "lk"); (· first | exact insF_lt | (with_unfolding_all exact Nat.le_of_ble_eq_true rfl) | wtm_at "nn")) | (apply w_lenD; (· wtm_at "lk"))
  | refine w_disp ?_ | refine w_pnil ?_ | refine w_pcons ?_ | (apply w_dispE; (· wtm_at "lk"); (· with_unfolding_all rfl); (· wtm_at "nn"))
  | refine w_dget ?_ | refine w_din ?_ | refine w_dget1 ?_ | refine w_dput ?_ | refine w_dpop1 ?_ | refine w_lenSet ?_ | refine w_listRng ?_ | refine w_notInRng ?_
  | (apply w_inK; (· wtm_at "dk"); (· with_unfolding_all rfl)) | (apply w_inT; (· wtm_at "dk"); (· with_unfolding_all exact keyT_lit))
  | (apply w_isK; (· wtm_at "dk")) | (apply w_isT; (· wtm_at "dk"))
  | (apply w_putK; (· wtm_at "lk"); (· with_unfolding_all rfl); (· wtm_at "nn")) | (apply w_putT; (· wtm_at "lk"); (· with_unfolding_all exact keyT_lit); (· wtm_at "nn")))
local macro_rules | `(tactic| wtm_at "bb") => `(tactic| (simp only [isN, Bool.not_true, Bool.not_false, Bool.or_true, Bool.true_or, Bool.or_false, Bool.false_or, Bool.xor_true, Bool.xor_false]; done))
local macro_rules | `(tactic| wtm_at "kt") => `(tactic| with_reducible first | exact kb_tu_tu | exact kb_tu_li | exact kb_tu_bo | exact kb_tu_st | exact kb_tu_in | exact kb_li_tu | exact kb_li_li | exact kb_li_bo | exact kb_li_st | exact kb_li_in | exact kb_No_tu | exact kb_No_li | exact kb_No_bo | exact kb_No_st | exact kb_No_in | exact kb_bo_tu | exact kb_bo_li | exact kb_bo_bo | exact kb_bo_st | exact kb_bo_in | exact kb_in_tu | exact kb_in_li | exact kb_in_bo | exact kb_in_st | exact kb_in_in | exact kb_st_tu | exact kb_st_li | exact kb_st_bo | exact kb_st_st | exact kb_st_in)
local macro_rules | `(tactic| wtm_at "ty") => `(tactic| first | assumption | exact ty_ref (by wtm_at "lk") | (with_unfolding_all exact rfl))
local macro_rules | `(tactic| wtm_at "x") => `(tactic| with_reducible first
  | (apply w_taken; (· wtm_at "lk"); (· wtm_at "nn"); (· wtm_at "nn")) | (apply w_eqD; (· wtm_at "vl"); (· wtm_at "vl"); (· wtm_at "pl"); (· wtm_at "pl")) | (apply w_neD; (· wtm_at "vl"); (· wtm_at "vl"); (· wtm_at "pl"); (· wtm_at "pl"))
  | (apply vR_row; (· assumption)) | (refine vR_frz (by assumption) ?_) | refine frz_let ?_ | refine w_isi ?_ | refine w_isi2 ?_ | (apply w_isiE; (· wtm_at "ty"); (· wtm_at "kt")) | (apply w_isiE2; (· wtm_at "ty"); (· wtm_at "kt"); (· wtm_at "kt"))
  | refine w_iteT rfl ?_ | refine w_iteF rfl ?_ | (apply w_iteT; (· wtm_at "bb")) | (apply w_iteF; (· wtm_at "bb")))
local macro_rules | `(tactic| wtm_at "w") => `(tactic| repeat (first | wtm_at "1" | wtm_at "x"))
theorem ekey_mem {ls : List Mg.Lk} {p : Int × Int} : ((endsT ls).any fun kv => decide (kv.1 = ekey p)) = true ↔ p ∈ endsL ls := by
  rw [List.any_eq_true, ← endsF_eq]
  constructor
  · rintro ⟨kv, h1, h2⟩
    obtain ⟨q, hq, rfl⟩ := List.mem_map.mp h1
    have := ekey_inj (of_decide_eq_true h2)
    rw [← this]
    exact List.mem_map_of_mem (f := (·.1)) hq
  · intro h
    obtain ⟨q, hq, rfl⟩ := List.mem_map.mp h
    exact ⟨_, List.mem_map_of_mem hq, by simp⟩
theorem endsT_snoc {ls : List Mg.Lk} {l : Mg.Lk} (h : (endsL (ls ++ [l])).Nodup) : putD (putD (endsT ls) (ekey (l.a, l.x)) (P2 (l.b, l.y))) (ekey (l.b, l.y)) (P2 (l.a, l.x)) = endsT (ls ++ [l]) := by
  rw [endsL_snoc, List.nodup_append] at h
  have h1 : (l.a, l.x) ∉ endsL ls := fun z => h.2.2 _ z l.e1 (by simp) rfl
  have h2 : (l.b, l.y) ∉ endsL ls := fun z => h.2.2 _ z l.e2 (by simp) rfl
  have h3 : ¬ (l.a, l.x) = (l.b, l.y) := by
    have := h.2.1
    simp only [List.nodup_cons, List.mem_singleton] at this
    exact this.1
  have e1 : putD (endsT ls) (ekey (l.a, l.x)) (P2 (l.b, l.y)) = endsT ls ++ [(ekey (l.a, l.x), P2 (l.b, l.y))] := by
    unfold putD
    rw [if_neg (fun z => h1 (ekey_mem.mp z))]
  rw [e1]
  unfold putD
  rw [if_neg ?_]
  · unfold endsT Mg.endsF
    rw [List.flatMap_append, List.map_append, List.append_assoc]
    rfl
  · rw [List.any_append, Bool.or_eq_true]
    rintro (z | z)
    · exact h2 (ekey_mem.mp z)
    · simp only [List.any_cons, List.any_nil, Bool.or_false, decide_eq_true_eq] at z
      exact h3 (ekey_inj z)
theorem endsT_len (ls : List Mg.Lk) : (endsT ls).length = 2 * ls.length := by
  unfold endsT Mg.endsF
  rw [List.length_map]
  induction ls with
  | nil => rfl
  | cons l ls ih => simp only [List.flatMap_cons, List.length_append, List.length_cons, List.length_nil] at ih ⊢; omega
theorem putD_len {κ : Type} [DecidableEq κ] {kvs : List (κ × D)} {k : κ} {v : D} : (putD kvs k v).length ≤ kvs.length + 1 := by
  unfold putD
  split
  · rw [List.length_map]; omega
  · rw [List.length_append]; simp
theorem lstOf_other {G : Gp} {x : D} {ds : List D} {p : Addr} {o : GO} (hx : lstOf G x = some ds) (hp : lstG (G p) = none) : lstOf (ud G p o) x = some ds := by
  cases x with
  | ref z =>
    refine lst_ref ((ud_ne ?_).trans (lst_own hx))
    rintro rfl
    have : lstG (G z) = some ds := hx
    rw [hp] at this
    cases this
  | _ => exact hx
theorem r_N_init {K : PySem.W.Frag} : Rd 11 (b_N_init K) (sp_N_init K) := by
  rintro _ G Q ⟨a, dx, n, ls, age, room, x, pls, rfl, ha, hw, a0, a20, r1, r8, hx, p1, p8, hpl, q⟩
  have hn1 := hw.n1
  have hn6 := hw.n6
  have hl10 := hw.len
  wtm_at "st"
  refine vN0 ?_
  unfold b_N_init
  wtm_at "w"
  refine w_need_web hw ?_
  wtm_at "w"
  refine w_iteT (decide_eq_true a0) ?_
  wtm_at "w"
  refine w_iteF (by simpa using a20) ?_
  wtm_at "w"
  refine w_iteT (decide_eq_true r1) ?_
  wtm_at "w"
  refine w_iteF (by simpa using r8) ?_
  wtm_at "w"
  rw [List.length_map]
  refine w_iteT (decide_eq_true (by omega)) ?_
  wtm_at "w"
  refine w_iteF (by simp; omega) ?_
  wtm_at "w"
  intro e he
  rw [ud_ud, ud_ud] at he
  have hea : e ≠ a := fun z => by rw [z, ud_same] at he; cases he
  have he0 : G e = none := by rw [ud_ne hea] at he; exact he
  wtm_at "w"
  let fs4 : List (Str × D) := [("web", webD n ls), ("age", .int age), ("room", .int room), ("ends", .ref e)]
  let GG : List Mg.Lk → Gp := fun ms => ud (ud G e (.sm (.dT (endsT ms)))) a (.sm (.ins (cN K) dx fs4))
  have gGa : ∀ ms, GG ms a = some (.sm (.ins (cN K) dx fs4)) := fun ms => ud_same
  have gGe : ∀ ms, GG ms e = some (.sm (.dT (endsT ms))) := fun ms => (ud_ne hea).trans ud_same
  have hGG0 : ud (ud (ud (ud (ud G a (.sm (.ins (cN K) dx (putFD "web" (webD n ls) [])))) a (.sm (.ins (cN K) dx (putFD "age" (.int age) (putFD "web" (webD n ls) []))))) a (.sm (.ins (cN K) dx (putFD "room" (.int room) (putFD "age" (.int age) (putFD "web" (webD n ls) [])))))) e (.sm (.dT []))) a (.sm (.ins (cN K) dx (putFD "ends" (.ref e) (putFD "room" (.int room) (putFD "age" (.int age) (putFD "web" (webD n ls) [])))))) = GG [] := by
    rw [ud_ud, ud_ud, ud_comm hea, ud_ud, ud_comm (Ne.symm hea)]
    rfl
  rw [hGG0, List.length_map]
  clear hGG0
  refine for_st (fun i ms => ms = ls.take i) (fun _ => [some (.ref a), some (webD n ls), some (.int age), some (.int room), some x, none, none, none, none, none, none]) GG [] rfl rfl rfl (fun _ _ _ _ => trivial) ?_ ?_
  · rintro i d ms hi hit rfl
    have hd : d = (ls[i]).d := by
      rw [List.getElem?_map, List.getElem?_eq_getElem hi] at hit
      exact (Option.some.inj hit).symm
    subst hd
    have ht : ls.take i ++ [ls[i]] = ls.take (i + 1) := by rw [List.take_succ, List.getElem?_eq_getElem hi]; rfl
    have hnd : (endsL (ls.take i ++ [ls[i]])).Nodup := by rw [ht]; exact (endsL_sub (List.take_sublist _ _)).nodup hw.nd
    have hsn := endsT_snoc hnd
    rw [ht] at hsn
    have hl1 := endsT_len (ls.take i)
    rw [List.length_take] at hl1
    generalize ls[i] = l at *
    wtm_at "w"
    refine w_putT ud_same keyT_lit ?_ ?_
    · have := putD_len (kvs := endsT (ls.take i)) (k := ekey (l.a, l.x)) (v := D.tup [D.int l.b, D.int l.y])
      omega
    · wtm_at "w"
      refine w_se _ rfl (.keep (.keep (.keep (.keep (.keep (.drop (.drop (.drop (.drop (.drop (.drop .refl))))))))))) ?_
      show ud (ud (ud (ud G e _) a _) e _) e _ = ud (ud G e _) a _
      rw [ud_ud, ud_comm (Ne.symm hea), ud_ud, ← hsn]
  · rintro _ rfl
    rw [List.take_length]
    have hxG : lstOf (GG ls) x = some (pls.map P2) := lstOf_other (lstOf_new hx he0) (by rw [ud_ne (Ne.symm hea), ha]; rfl)
    wtm_at "w"
    rw [List.length_map, Int.toNat_natCast]
    refine for_st (fun _ (_ : Unit) => True) (fun _ => [some (.ref a), some (webD n ls), some (.int age), some (.int room), some x, none, none, none, none, none, none]) (fun _ => GG ls) () trivial rfl rfl (fun _ _ _ _ => trivial) ?_ ?_
    · rintro i d ⟨⟩ hi rfl _
      rw [Int.zero_add]
      wtm_at "w"
      refine w_methE (.inl ⟨dx, fs4, gGa ls, rfl⟩) ?_
      wtm_at "w"
      refine w_ixL hxG (pls_at hi) ?_
      wtm_at "w"
      refine w_need_place (gGa ls) rfl rfl (gGe ls) (hpl _ (List.getElem_mem hi)) ?_
      wtm_at "w"
      exact w_se () trivial (.keep (.keep (.keep (.keep (.keep (.drop (.drop (.drop (.drop (.drop (.drop .refl))))))))))) rfl
    · rintro ⟨⟩ _
      wtm_at "w"
      refine w_listL hxG fun sp hsp => ?_
      have hsa : sp ≠ a := fun z => by rw [z, gGa] at hsp; cases hsp
      have hse : sp ≠ e := fun z => by rw [z, gGe] at hsp; cases hsp
      have hs0 : G sp = none := by
        have : ud (ud G e _) a _ sp = none := hsp
        rw [ud_ne hsa, ud_ne hse] at this
        exact this
      wtm_at "w"
      obtain ⟨G5, hG5⟩ : ∃ g, g = ud (ud (GG ls) sp (.sm (.lst (pls.map P2)))) a (.sm (.ins (cN K) dx (putFD "spots" (.ref sp) fs4))) := ⟨_, rfl⟩
      rw [← hG5]
      have g5a : G5 a = some (.sm (.ins (cN K) dx (putFD "spots" (.ref sp) fs4))) := by rw [hG5]; exact ud_same
      have g5s : G5 sp = some (.sm (.lst (pls.map P2))) := by rw [hG5]; exact (ud_ne hsa).trans ud_same
      have g5e : G5 e = some (.sm (.dT (endsT ls))) := by rw [hG5, ud_ne hea, ud_ne (Ne.symm hse)]; exact gGe ls
      have g5o : ∀ b, b ≠ a → b ≠ e → b ≠ sp → G5 b = G b := fun b h1 h2 h3 => by
        rw [hG5, ud_ne h1, ud_ne h3]
        show ud (ud G e _) a _ b = G b
        rw [ud_ne h1, ud_ne h2]
      clear hG5
      intro k hk
      refine ⟨fun i G' => ∃ rs : List Addr, rs.length = i ∧ rs.Nodup ∧ (∀ r ∈ rs, G5 r = none ∧ r ≠ k) ∧ G' k = some (.sm (.lst (rs.map D.ref))) ∧ (∀ r ∈ rs, G' r = some (.sm (.dK []))) ∧ ∀ b, b ∉ rs → b ≠ k → G' b = G5 b, ⟨[], rfl, List.nodup_nil, by simp, ud_same, by simp, fun b _ hb => ud_ne hb⟩, fun _ _ _ _ => trivial, ?_, ?_⟩
      · rintro i d G3 hi rfl ⟨rs, q1, q2, q3, q4, q5, q6⟩
        wtm_at "w"
        refine w_newK fun z hz => ?_
        have hzk : z ≠ k := fun y => by rw [y, q4] at hz; cases hz
        have hzr : z ∉ rs := fun y => by rw [q5 z y] at hz; cases hz
        have hz5 : G5 z = none := by rw [← q6 z hzr hzk]; exact hz
        refine ⟨rs.map D.ref, (ud_ne (Ne.symm hzk)).trans q4, by rw [List.length_map]; omega, vG0 ⟨rs ++ [z], by simp [q1], ?_, ?_, ?_, ?_, ?_⟩⟩
        · rw [List.nodup_append]
          exact ⟨q2, by simp, by simp only [List.mem_singleton]; rintro a ha b rfl rfl; exact hzr ha⟩
        · intro r hr
          rcases List.mem_append.mp hr with y | y
          · exact q3 r y
          · simp only [List.mem_singleton] at y
            rw [y]
            exact ⟨hz5, hzk⟩
        · rw [ud_same, List.map_append]
          rfl
        · intro r hr
          rcases List.mem_append.mp hr with y | y
          · rw [ud_ne (q3 r y).2, ud_ne (show r ≠ z from fun w => by subst w; exact hzr y)]
            exact q5 r y
          · simp only [List.mem_singleton] at y
            rw [y, ud_ne hzk, ud_same]
        · intro b hb hbk
          simp only [List.mem_append, List.mem_singleton, not_or] at hb
          rw [ud_ne hbk, ud_ne hb.2]
          exact q6 b hb.1 hbk
      · rintro G6 ⟨rs, q1, q2, q3, q4, q5, q6⟩
        have hka : a ≠ k := fun y => by rw [← y, g5a] at hk; cases hk
        have hke : e ≠ k := fun y => by rw [← y, g5e] at hk; cases hk
        have hks : sp ≠ k := fun y => by rw [← y, g5s] at hk; cases hk
        have hra : a ∉ rs := fun y => by have := (q3 a y).1; rw [g5a] at this; cases this
        have hre : e ∉ rs := fun y => by have := (q3 e y).1; rw [g5e] at this; cases this
        have hrs : sp ∉ rs := fun y => by have := (q3 sp y).1; rw [g5s] at this; cases this
        have hrk : k ∉ rs := fun y => (q3 k y).2 rfl
        have g6a := (q6 a hra hka).trans g5a
        wtm_at "w"
        rw [ud_ud]
        let t : Nt := ⟨a, dx, e, sp, k, rs⟩
        have hfr : (Mg.freshF n ls age room pls).known = List.replicate n.toNat [] := rfl
        have hO : NetO K (ud G6 a (.sm (.ins (cN K) dx (putFD "now" (.int 0) (putFD "known" (.ref k) (putFD "spots" (.ref sp) fs4)))))) t (Mg.freshF n ls age room pls) := by
          refine ⟨by rw [hfr, List.length_replicate]; exact q1, ?_, fun b o hm => ?_⟩
          · show (a :: e :: sp :: k :: rs).Nodup
            simp only [List.nodup_cons, List.mem_cons, not_or]
            exact ⟨⟨Ne.symm hea, Ne.symm hsa, hka, hra⟩, ⟨Ne.symm hse, hke, hre⟩, ⟨hks, hrs⟩, hrk, q2⟩
          · unfold partsN at hm
            simp only [List.mem_cons] at hm
            rcases hm with z | z | z | z | z
            · cases z
              exact ud_same
            · cases z
              rw [ud_ne hea, q6 e hre hke]
              exact g5e
            · cases z
              rw [ud_ne hsa, q6 sp hrs hks]
              exact g5s
            · cases z
              rw [ud_ne (Ne.symm hka)]
              exact q4
            · rw [hfr] at z
              have hb := (List.of_mem_zip z).1
              have ho := (List.of_mem_zip z).2
              simp only [List.map_replicate, List.mem_replicate] at ho
              rw [ho.2, ud_ne (show b ≠ a from fun y => by subst y; exact hra hb)]
              exact q5 b hb
        refine vR_to (fun F' H' g' => net_shut (G := G) g' hO rfl (fun b hb hne => ?_) fun b y hb hy => ?_) q
        · have hb : b ∈ a :: e :: sp :: k :: rs := hb
          simp only [List.mem_cons] at hb
          rcases hb with z | z | z | z | z
          · exact absurd z hne
          · rw [z]; exact he0
          · rw [z]; exact hs0
          · rw [z]
            rw [g5o k (Ne.symm hka) (Ne.symm hke) (Ne.symm hks)] at hk
            exact hk
          · have h1 := (q3 b z).1
            rw [g5o b hne (fun y => hre (y ▸ z)) (fun y => hrs (y ▸ z))] at h1
            exact h1
        · have hb : b ∉ a :: e :: sp :: k :: rs := hb
          simp only [List.mem_cons, not_or] at hb
          rw [ud_ne hb.1, q6 b hb.2.2.2.2 hb.2.2.2.1, g5o b hb.1 hb.2.1 hb.2.2.1]
          exact hy
end Dg
namespace Dg
open PySem PySem.Spec L2
/-- the law's own promise -/
def sp_law (K : PySem.W.Frag) : DSp := fun ds G Q => ∃ sc ns, ds = [.ref sc] ∧ ScrAt K G sc ns ∧ ∀ G', Q (.bl true) G'
theorem len_law {K : PySem.W.Frag} : ∀ ds G Q, sp_law K ds G Q → ds.length = 1 := by rintro _ _ _ ⟨_, _, rfl, _⟩; rfl
theorem law_start {K : PySem.W.Frag} {H : Hp} {a : Addr} {ns : List Int} (ho : Only H) (hs : SqL K H a (ns.map V.int)) (E : XK) : lSp (sp_law K) [.ref a] H (fun v _ => v = .bl true) E := by
  have fin : Kc (fun _ => False) H (fun v _ => v = V.bl true) (fun d _ => d = D.bl true) := fun v H' F' d G' e g i q => by
    subst q
    exact is_bl.mp i
  rcases hs with hs | hs
  · have hf : ∃ o, H a = some (.frz o (.lst (ns.map V.int))) := by
      rcases hs with hs | hs
      · rcases ho a with z | ⟨o, xs, z⟩
        · rw [z] at hs
          cases hs
        · rw [z] at hs
          cases hs
      · exact hs
    obtain ⟨o, hf⟩ := hf
    refine ⟨fun _ => False, [.ref a], fun b => if b = a then some (.sm (.scr ns)) else none, fun d _ => d = .bl true, IsL.cons (is_ref.mpr rfl) IsL.nil, ⟨fun _ z => z.elim, fun b => if b = a then some (.scr ns) else none, id, ?_, ?_⟩, ⟨a, ns, rfl, .inl (if_pos rfl), fun _ => rfl⟩, fin⟩
    · intro b x e
      dsimp only at e
      by_cases hb : b = a
      · rw [if_pos hb] at e
        cases e
        subst hb
        exact ⟨fun z => z, _, hf, o, rfl⟩
      · rw [if_neg hb] at e
        cases e
    · intro b x e
      dsimp only at e
      by_cases hb : b = a
      · rw [if_pos hb] at e
        cases e
        exact ⟨rfl, if_pos hb⟩
      · rw [if_neg hb] at e
        cases e
  · refine ⟨fun _ => False, [.ref a], fun _ => none, fun d _ => d = .bl true, IsL.cons (is_ref.mpr rfl) IsL.nil, ⟨fun _ z => z.elim, fun _ => none, id, ?_, ?_⟩, ⟨a, ns, rfl, .inr hs, fun _ => rfl⟩, fin⟩
    · intro b x e
      cases e
    · intro b x e
      cases e
end Dg
namespace Mg
theorem kn_mem {kn : Kn} (nd : (kKeys kn).Nodup) {h : Int} {v : Int × Int} : (h, v) ∈ kn ↔ kGet kn h = some v := by
  induction kn with
  | nil => simp [kGet]
  | cons p kn ih =>
    unfold kKeys at nd ih
    rw [List.map_cons, List.nodup_cons] at nd
    rw [kGet_cons, List.mem_cons]
    by_cases c : p.1 = h
    · rw [if_pos c]
      constructor
      · rintro (z | z)
        · rw [← z]
        · exact absurd (List.mem_map_of_mem (f := fun q : Int × (Int × Int) => q.1) z) (fun w => nd.1 (by rw [c]; exact w))
      · intro z
        cases z
        exact .inl (by rw [← c])
    · rw [if_neg c, ← ih nd.2]
      constructor
      · rintro (z | z)
        · exact absurd (by rw [← z]) c
        · exact z
      · exact .inr
theorem kn_eq : ∀ {kn : Kn}, (kKeys kn).Nodup → kn = (kKeys kn).map fun h => (h, (kGet kn h).getD (0, 0))
  | [], _ => rfl
  | p :: kn, nd => by
    have nd2 := nd
    unfold kKeys at nd2
    rw [List.map_cons, List.nodup_cons] at nd2
    show p :: kn = (p.1, (kGet (p :: kn) p.1).getD (0, 0)) :: (kKeys kn).map _
    rw [kGet_cons, if_pos rfl]
    congr 1
    conv => lhs; rw [kn_eq (kn := kn) nd2.2]
    refine List.map_congr_left fun h hh => ?_
    rw [kGet_cons, if_neg (fun z => nd2.1 (by rw [z]; exact hh))]
theorem get_perm {xs ys : Kn} (h1 : (kKeys xs).Nodup) (p : xs.Perm ys) (g : Int) : kGet xs g = kGet ys g := by
  have h2 : (kKeys ys).Nodup := (List.Perm.nodup_iff (p.map fun q : Int × (Int × Int) => q.1)).mp h1
  cases e : kGet ys g with
  | some v => exact (kn_mem h1).mp (p.mem_iff.mpr ((kn_mem h2).mpr e))
  | none =>
    cases e2 : kGet xs g with
    | none => rfl
    | some v =>
      have := (kn_mem h2).mp (p.mem_iff.mp ((kn_mem h1).mpr e2))
      rw [e] at this
      cases this
theorem srt_perm {kn : Kn} (nd : (kKeys kn).Nodup) : (srt kn).Perm kn := by
  conv => rhs; rw [kn_eq nd]
  exact (srtK_perm kn).map _
theorem srt_keys (kn : Kn) : kKeys (srt kn) = srtK kn := by
  unfold srt kKeys
  rw [List.map_map]
  exact List.map_id' _
theorem srt_nd {kn : Kn} (nd : (kKeys kn).Nodup) : (kKeys (srt kn)).Nodup := by
  rw [srt_keys]
  exact (srtK_perm kn).nodup_iff.mpr nd
theorem srt_get {kn : Kn} (nd : (kKeys kn).Nodup) (g : Int) : kGet (srt kn) g = kGet kn g := get_perm (srt_nd nd) (srt_perm nd) g
/-- of those of a host that hold -/
theorem door_of_list {P : Int × Int → Bool} {h : Int} : ∀ {kn : Kn}, (kKeys kn).Nodup → kn.filter (fun p => decide (p.1 = h) && P p.2) = match kGet kn h with
    | some v => if P v = true then [(h, v)] else []
    | none => []
  | [], _ => rfl
  | p :: kn, nd => by
    have nd2 := nd
    unfold kKeys at nd2
    rw [List.map_cons, List.nodup_cons] at nd2
    rw [List.filter_cons, kGet_cons, door_of_list (kn := kn) nd2.2]
    by_cases c : p.1 = h
    · have : kGet kn h = none := kGet_none.mpr (by rw [← c]; exact nd2.1)
      rw [if_pos c, this]
      subst c
      cases e : P p.2 <;> simp [e]
    · rw [if_neg c]
      simp [c]
end Mg
namespace Dg
open PySem PySem.Spec L2
open Mg (Lk Kn NS)
structure La where
  a : Addr
  s : Addr
  k : Addr
@[reducible] def triD (q : Int × (Int × Int)) : D := .tup [.int q.1, .int q.2.1, .int q.2.2]
def knD (kn : Kn) : D := .lst ((Mg.srt kn).map triD)
def lawKv (l : La) (st : NS) : List (Key × D) := [(.inr "web", webD st.n st.ls), (.inr "age", .int st.age), (.inr "room", .int st.room), (.inr "spots", .ref l.s), (.inr "known", .ref l.k), (.inr "time", .int st.now)]
section
variable {l : La} {st : NS}
theorem lv_web : valD (lawKv l st) (.inr "web") = some (webD st.n st.ls) := rfl
theorem lv_age : valD (lawKv l st) (.inr "age") = some (.int st.age) := rfl
theorem lv_room : valD (lawKv l st) (.inr "room") = some (.int st.room) := rfl
theorem lv_spots : valD (lawKv l st) (.inr "spots") = some (.ref l.s) := rfl
theorem lv_known : valD (lawKv l st) (.inr "known") = some (.ref l.k) := rfl
theorem lv_time : valD (lawKv l st) (.inr "time") = some (.int st.now) := rfl
theorem lv_put {t : Int} : putD (lawKv l st) (.inr "time") (.int t) = lawKv l { st with now := t } := rfl
end
structure LawO (G : Gp) (l : La) (st : NS) : Prop where
  ga : G l.a = some (.sm (.dK (lawKv l st)))
  gs : G l.s = some (.sm (.lst (st.spots.map P2)))
  gk : G l.k = some (.sm (.lst (st.known.map knD)))
  as : l.a ≠ l.s
  ak : l.a ≠ l.k
  sk : l.s ≠ l.k
def La.no (l : La) (p : Addr) : Prop := p ≠ l.a ∧ p ≠ l.s ∧ p ≠ l.k
section
variable {G : Gp} {l : La} {st : NS}
theorem LawO.fresh (h : LawO G l st) {p : Addr} (hp : G p = none) : l.no p := ⟨fun z => (by rw [z, h.ga] at hp; cases hp), fun z => (by rw [z, h.gs] at hp; cases hp), fun z => (by rw [z, h.gk] at hp; cases hp)⟩
theorem LawO.frame (h : LawO G l st) {p : Addr} {x : GO} (hp : l.no p) : LawO (ud G p x) l st := ⟨(ud_ne (Ne.symm hp.1)).trans h.ga, (ud_ne (Ne.symm hp.2.1)).trans h.gs, (ud_ne (Ne.symm hp.2.2)).trans h.gk, h.as, h.ak, h.sk⟩
theorem LawO.agree (h : LawO G l st) {G' : Gp} (ha : G' l.a = G l.a) (hs : G' l.s = G l.s) (hk : G' l.k = G l.k) : LawO G' l st := ⟨ha.trans h.ga, hs.trans h.gs, hk.trans h.gk, h.as, h.ak, h.sk⟩
theorem LawO.new (h : LawO G l st) {p : Addr} {x : GO} (hp : G p = none) : LawO (ud G p x) l st := h.frame (h.fresh hp)
theorem LawO.setT (h : LawO G l st) (t : Int) : LawO (ud G l.a (.sm (.dK (lawKv l { st with now := t })))) l { st with now := t } := ⟨ud_same, (ud_ne (Ne.symm h.as)).trans h.gs, (ud_ne (Ne.symm h.ak)).trans h.gk, h.as, h.ak, h.sk⟩
theorem LawO.setS (h : LawO G l st) (sp : List (Int × Int)) : LawO (ud G l.s (.sm (.lst (sp.map P2)))) l { st with spots := sp } := ⟨(ud_ne h.as).trans h.ga, ud_same, (ud_ne (Ne.symm h.sk)).trans h.gk, h.as, h.ak, h.sk⟩
theorem LawO.setK (h : LawO G l st) (ks : List Kn) : LawO (ud G l.k (.sm (.lst (ks.map knD)))) l { st with known := ks } := ⟨(ud_ne h.ak).trans h.ga, (ud_ne h.sk).trans h.gs, ud_same, h.as, h.ak, h.sk⟩
end
inductive Deed where
  | send (t h : Int) (to : Option Int)
  | move (t h : Int) (p : Int × Int)
def deedD : Deed → D
  | .send t h to => .tup [.str "send", .int t, .int h, optD to]
  | .move t h p => .tup [.str "move", .int t, .int h, P2 p]
def DeedOk (st : NS) : Deed → Prop
  | .send t h to => LtOk st t h to
  | .move t h p => st.now ≤ t ∧ t ≤ 1000 ∧ 0 ≤ h ∧ h < st.spots.length ∧ PlOk st.n st.ls p
def ltrD (c : Mg.Ltr) (p : Addr) : D := .tup [.bl (decide (c.w = [])), .ref p, .int c.steps]
def sp_L_ends (K : PySem.W.Frag) : DSp := fun ds G Q => ∃ n ls, ds = [webD n ls] ∧ WebOk n ls ∧ ∀ p, G p = none → Q (.ref p) (ud G p (.sm (.dT (endsT ls))))
/-- the places, box by box -/
def placesF (n : Int) (ls : List Lk) : List (Int × Int) := (List.range n.toNat).flatMap fun (b : Nat) => ([0, 1, 2, 3].filter fun d => (Mg.eGet ls ((b : Int), d)).isNone).map fun d => ((b : Int), d)
def sp_L_places (K : PySem.W.Frag) : DSp := fun ds G Q => ∃ n ls, ds = [webD n ls] ∧ WebOk n ls ∧ ∀ p, G p = none → Q (.ref p) (ud G p (.sm (.lst ((placesF n ls).map P2))))
def sp_L_fresh (K : PySem.W.Frag) : DSp := fun ds G Q => ∃ r n ls, ds = [.ref r, webD n ls] ∧ G r = some (gRow K) ∧ WebOk n ls ∧
  ∀ (l : La) (st : NS) (G' : Gp), LawO G' l st → NOk st → st.n = n → st.ls = ls → st.now = 0 → st.known = List.replicate n.toNat [] → (∀ b, l.no b → ∀ x, G b = some x → G' b = some x) → G l.a = none → G l.s = none → G l.k = none → Q (.ref l.a) G'
def sp_L_net (K : PySem.W.Frag) : DSp := fun ds G Q => ∃ l st, ds = [.ref l.a] ∧ LawO G l st ∧ NOk st ∧ ∀ p, G p = none → Q (.ref p) (ud G p (gNet K (Mg.freshF st.n st.ls st.age st.room st.spots)))
def sp_L_deed (K : PySem.W.Frag) : DSp := fun ds G Q => ∃ r l st, ds = [.ref r, .ref l.a] ∧ G r = some (gRow K) ∧ LawO G l st ∧ NOk st ∧ ∀ dd, DeedOk st dd → Q (deedD dd) G
def sp_L_does (K : PySem.W.Frag) : DSp := fun ds G Q => ∃ a st dd, ds = [.ref a, deedD dd] ∧ G a = some (gNet K st) ∧ NOk st ∧ DeedOk st dd ∧ match dd with
  | .send t h to => ∀ p, G p = none → Q (ltrD (Mg.sendF st t h to) p) (ud (ud G a (gNet K (Mg.sendF st t h to).st)) p (.sm (.lst ((Mg.sendF st t h to).got.map D.int))))
  | .move t h p => Q .non (ud G a (gNet K (Mg.moveF st t h p)))
theorem len_L_ends {K : PySem.W.Frag} : ∀ ds G Q, sp_L_ends K ds G Q → ds.length = 1 := by rintro _ _ _ ⟨_, _, rfl, _⟩; rfl
theorem len_L_places {K : PySem.W.Frag} : ∀ ds G Q, sp_L_places K ds G Q → ds.length = 1 := by rintro _ _ _ ⟨_, _, rfl, _⟩; rfl
theorem len_L_fresh {K : PySem.W.Frag} : ∀ ds G Q, sp_L_fresh K ds G Q → ds.length = 2 := by rintro _ _ _ ⟨_, _, _, rfl, _⟩; rfl
theorem len_L_net {K : PySem.W.Frag} : ∀ ds G Q, sp_L_net K ds G Q → ds.length = 1 := by rintro _ _ _ ⟨_, _, rfl, _⟩; rfl
theorem len_L_deed {K : PySem.W.Frag} : ∀ ds G Q, sp_L_deed K ds G Q → ds.length = 2 := by rintro _ _ _ ⟨_, _, _, rfl, _⟩; rfl
theorem len_L_does {K : PySem.W.Frag} : ∀ ds G Q, sp_L_does K ds G Q → ds.length = 2 := by rintro _ _ _ ⟨_, _, _, rfl, _⟩; rfl
end Dg
namespace Dg
open PySem PySem.Spec L2
/-- _law_ends: slots 0=web_here 1=found 2=one 3=door_here 4=other 5=its_door -/
def b_L_ends (K : PySem.W.Frag) : DS :=
    (dSeq (dAsg dNewT (hName 1))
    (dSeq (dForT (dOp eIxT (dVar 0) (dC (.int 1))) (hTup 4 (hCons (hName 2) (hCons (hName 3) (hCons (hName 4) (hCons (hName 5) hNil))))) (dSeq (dDPut (dVar 1) (dTup (dCons (dVar 2) (dCons (dVar 3) dNil))) (dTup (dCons (dVar 4) (dCons (dVar 5) dNil))))
    (dDPut (dVar 1) (dTup (dCons (dVar 4) (dCons (dVar 5) dNil))) (dTup (dCons (dVar 2) (dCons (dVar 3) dNil))))))
    (dRet (dVar 1))))
/-- _law_places: slots 0=web_here 1=ends_here 2=found 3=box 4=door_here -/
def b_L_places (K : PySem.W.Frag) : DS :=
    (dSeq (dAsg (dCall (sp_L_ends K) (dCons (dVar 0) dNil)) (hName 1))
    (dSeq (dAsg (dLst dNil) (hName 2))
    (dSeq (dForR1 (dCons (dOp eIxT (dVar 0) (dC (.int 0))) dNil) (hName 3) (dDrop (dBM "list" mExtend (dVar 2) (dCons (dFz (dLcR1 (dCons (dC (.int 4)) dNil) (.nm 4) (dTest (dDIn true (dTup (dCons (dVar 3) (dCons (dVar 4) dNil))) (dVar 1))) (dTup (dCons (dVar 3) (dCons (dVar 4) dNil))) [4])) dNil))))
    (dRet (dVar 2)))))
/-- _law_fresh: slots 0=row 1=web_here 2=some 3=spots 4=k 5=age 6=room 7=box -/
def b_L_fresh (K : PySem.W.Frag) : DS :=
    (dSeq (dAsg (dCall (sp_L_places K) (dCons (dVar 1) dNil)) (hName 2))
    (dSeq (dAsg (dLcR1 (dCons (dOp eAdd (dC (.int 1)) (dCall (sp_L_taken K) (dCons (dVar 0) (dCons (dC (.int 8)) dNil)))) dNil) (.nm 4) dYes (dOp eIxL (dVar 2) (dCall (sp_L_taken K) (dCons (dVar 0) (dCons (dCB cLen (dCons (dVar 2) dNil)) dNil)))) [4]) (hName 3))
    (dSeq (dAsg (dOp eIxL (dFz (dLst (dCons (dC (.int 20)) (dCons (dC (.int 3)) (dCons (dCall (sp_L_taken K) (dCons (dVar 0) (dCons (dC (.int 21)) dNil))) dNil))))) (dCall (sp_L_taken K) (dCons (dVar 0) (dCons (dC (.int 3)) dNil)))) (hName 5))
    (dSeq (dAsg (dOp eIxL (dFz (dLst (dCons (dC (.int 8)) (dCons (dC (.int 8)) (dCons (dOp eAdd (dC (.int 1)) (dCall (sp_L_taken K) (dCons (dVar 0) (dCons (dC (.int 8)) dNil)))) dNil))))) (dCall (sp_L_taken K) (dCons (dVar 0) (dCons (dC (.int 3)) dNil)))) (hName 6))
    (dRet (dDisp [((dC (.str "web")), (dVar 1)), ((dC (.str "age")), (dVar 5)), ((dC (.str "room")), (dVar 6)), ((dC (.str "spots")), (dVar 3)), ((dC (.str "known")), (dLcR1 (dCons (dOp eIxT (dVar 1) (dC (.int 0))) dNil) (.nm 7) dYes (dFz (dLst dNil)) [7])), ((dC (.str "time")), (dC (.int 0)))]))))))
/-- _law_net: slots 0=n -/
def b_L_net (K : PySem.W.Frag) : DS :=
    (dRet (dMake (cN K) (sp_N_init K) (dCons (dDGet (dVar 0) (dC (.str "web"))) (dCons (dDGet (dVar 0) (dC (.str "age"))) (dCons (dDGet (dVar 0) (dC (.str "room"))) (dCons (dFz (dCB cList (dCons (dDGet (dVar 0) (dC (.str "spots"))) dNil))) dNil))))))
/-- _law_deed: slots 0=row 1=n 2=hosts 3=time 4=host 5=some -/
def b_L_deed (K : PySem.W.Frag) : DS :=
    (dSeq (dAsg (dCB cLen (dCons (dDGet (dVar 1) (dC (.str "spots"))) dNil)) (hName 2))
    (dSeq (dAsg (dCB cMin2 (dCons (dC (.int 1000)) (dCons (dOp eAdd (dDGet (dVar 1) (dC (.str "time"))) (dOp eIxL (dFz (dLst (dCons (dC (.int 0)) (dCons (dC (.int 1)) (dCons (dCall (sp_L_taken K) (dCons (dVar 0) (dCons (dC (.int 4)) dNil))) (dCons (dCall (sp_L_taken K) (dCons (dVar 0) (dCons (dC (.int 25)) dNil))) dNil)))))) (dCall (sp_L_taken K) (dCons (dVar 0) (dCons (dC (.int 4)) dNil))))) dNil))) (hName 3))
    (dSeq (dIfS (dTest (dOp eEq (dCall (sp_L_taken K) (dCons (dVar 0) (dCons (dC (.int 24)) dNil))) (dC (.int 23)))) (dAsg (dOp eAdd (dDGet (dVar 1) (dC (.str "time"))) (dCall (sp_L_taken K) (dCons (dVar 0) (dCons (dOp eSub (dC (.int 1001)) (dDGet (dVar 1) (dC (.str "time")))) dNil)))) (hName 3)) dNext)
    (dSeq (dAsg (dCall (sp_L_taken K) (dCons (dVar 0) (dCons (dVar 2) dNil))) (hName 4))
    (dSeq (dAsg (dCall (sp_L_places K) (dCons (dDGet (dVar 1) (dC (.str "web"))) dNil)) (hName 5))
    (dSeq (dIfS (dTest (dOp eEq (dCall (sp_L_taken K) (dCons (dVar 0) (dCons (dC (.int 5)) dNil))) (dC (.int 4)))) (dRet (dTup (dCons (dC (.str "move")) (dCons (dVar 3) (dCons (dVar 4) (dCons (dOp eIxL (dVar 5) (dCall (sp_L_taken K) (dCons (dVar 0) (dCons (dCB cLen (dCons (dVar 5) dNil)) dNil)))) dNil)))))) dNext)
    (dSeq (dIfS (dOr (dTest (dOp eEq (dVar 2) (dC (.int 1)))) (dTest (dOp eEq (dCall (sp_L_taken K) (dCons (dVar 0) (dCons (dC (.int 6)) dNil))) (dC (.int 5))))) (dRet (dTup (dCons (dC (.str "send")) (dCons (dVar 3) (dCons (dVar 4) (dCons (dC .non) dNil)))))) dNext)
    (dRet (dTup (dCons (dC (.str "send")) (dCons (dVar 3) (dCons (dVar 4) (dCons (dOp eMod (dOp eAdd (dOp eAdd (dVar 4) (dC (.int 1))) (dCall (sp_L_taken K) (dCons (dVar 0) (dCons (dOp eSub (dVar 2) (dC (.int 1))) dNil)))) (dVar 2)) dNil)))))))))))))
/-- _law_does: slots 0=net_here 1=deed_here -/
def b_L_does (K : PySem.W.Frag) : DS :=
    (dSeq (dIfS (dTest (dOp eEq (dOp eIxT (dVar 1) (dC (.int 0))) (dC (.str "send")))) (dRet (dMeth (cN K) "send" (sp_N_send K) (dVar 0) (dCons (dOp eIxT (dVar 1) (dC (.int 1))) (dCons (dOp eIxT (dVar 1) (dC (.int 2))) (dCons (dOp eIxT (dVar 1) (dC (.int 3))) dNil))))) dNext)
    (dRet (dMeth (cN K) "move" (sp_N_move K) (dVar 0) (dCons (dOp eIxT (dVar 1) (dC (.int 1))) (dCons (dOp eIxT (dVar 1) (dC (.int 2))) (dCons (dOp eIxT (dVar 1) (dC (.int 3))) dNil))))))
end Dg
namespace Dg
open PySem PySem.Spec L2
local macro_rules | `(tactic| wtm_at "ne") => `(tactic| first | assumption | (apply Ne.symm; assumption) | (grind [ud, er]))
local macro_rules | `(tactic| wtm_at "lk") => `(tactic| first | (with_reducible assumption) | (with_reducible exact ud_same) | ((with_reducible refine (ud_ne (by wtm_at "ne")).trans ?_); wtm_at "lk"))
local macro_rules | `(tactic| wtm_at "gl") => `(tactic| first | (with_reducible assumption) | (with_reducible exact lst_ref (by wtm_at "lk")) | (with_reducible exact lstOf_new (by assumption) (by assumption)) | (with_unfolding_all exact rfl))
local macro_rules | `(tactic| wtm_at "vl") => `(tactic| first | (with_reducible exact val_ref (by wtm_at "lk")) | (with_unfolding_all exact rfl))
local macro_rules | `(tactic| wtm_at "dk") => `(tactic| with_reducible first | exact dK_own (by wtm_at "lk") | exact dK_lk (by wtm_at "lk") | exact dT_own (by wtm_at "lk"))
local macro_rules | `(tactic| wtm_at "pl") => `(tactic| with_unfolding_all first | exact rfl | exact all_int _ | exact all_P2 _ | assumption)
local macro_rules | `(tactic| wtm_at "nn") => `(tactic| first | omega | decide | (simp only [List.length_cons, List.length_nil, List.length_map, List.length_append]; omega) | grind)
local macro_rules | `(tactic| wtm_at "st") => `(tactic| (simp only [stD, List.map_cons, List.map_nil, List.length_cons, List.length_nil, List.replicate, Nat.reduceAdd, Nat.reduceSub, List.cons_append, List.nil_append]))
local macro_rules | `(tactic| wtm_at "1") => `(tactic| with_reducible first
  | refine w_seq ?_ | refine w_asgN ?_ | refine w_asgS ?_ | refine w_asgT ?_ | refine w_ret ?_ | refine w_drop ?_ | refine w_ifS ?_ | refine w_test ?_ | refine w_next ?_
  | refine w_nx ?_ | refine w_nx0 ?_ | refine w_rt ?_ | refine w_bk ?_ | refine w_ct ?_
  | refine w_bl2 ?_ | refine w_and ?_ | refine w_or ?_ | refine w_not ?_ | refine w_andV ?_ | refine w_orV ?_ | refine w_notV ?_ | refine w_if ?_
  | (apply w_var; (· with_unfolding_all rfl)) | refine w_c ?_ | refine w_op ?_ | refine w_chain ?_ | refine w_nil ?_ | refine w_cons ?_ | refine w_tup ?_ | refine w_lst ?_
  | (apply w_len; (· wtm_at "nn")) | refine w_call ?_ | refine w_cb ?_ | refine w_isN ?_ | refine w_notN ?_ | refine w_fz ?_
  | refine w_add ?_ | refine w_sub ?_ | refine w_lt ?_ | refine w_le ?_ | refine w_gt ?_ | refine w_ge ?_ | (apply w_mod; (· wtm_at "nn")) | (apply w_div; (· wtm_at "nn"); (· wtm_at "nn"))
  | (apply w_eq; (· with_unfolding_all rfl)) | (apply w_ne; (· with_unfolding_all rfl))
  | (apply w_ixT; (· with_unfolding_all rfl)) | (apply w_ixL; (· wtm_at "gl"); (· with_unfolding_all rfl))
  | refine w_lenT ?_ | (apply w_lenL; (· wtm_at "gl")) | refine w_min2 ?_ | refine w_max2 ?_ | refine w_intB ?_ | (apply w_tupleL; (· wtm_at "gl"))
  | refine w_bm ?_ | refine w_bm0 ?_ | (apply w_ty; (· wtm_at "gl"))
  | (apply w_setL; (· wtm_at "lk"); (· with_unfolding_all rfl)) | (apply w_append; (· wtm_at "lk"); (· wtm_at "nn")) | (apply w_extend; (· wtm_at "lk"); (· wtm_at "gl"); (· wtm_at "nn"))
  | refine w_hcons ?_ | refine w_hnil ?_ | refine w_hname ?_ | (apply w_htup; (· with_unfolding_all rfl)) | (apply w_exT; (· with_unfolding_all rfl))
  | refine w_lcR1 ?_ | refine w_lcL ?_ | refine w_lcT ?_ | refine w_forR1 ?_ | refine w_forR2 ?_ | refine w_forL ?_ | refine w_forT ?_ | refine w_yes ?_ | refine w_cnm ?_ | (apply w_ctp; (· with_unfolding_all rfl))
  | (apply w_exL; (· wtm_at "gl")) | refine w_exTu ?_ | (apply w_exI; (· wtm_at "nn")) | (apply w_exI2; (· wtm_at "nn")) | refine w_exII ?_
  | refine w_lcK ?_ | refine w_fld ?_ | refine w_fldS ?_ | refine w_meth ?_ | refine w_make ?_ | (apply w_fldE; (· wtm_at "lk"); (· with_unfolding_all rfl)) | (apply w_fldSE; (· wtm_at "lk"); (· first | exact insF_lt | (with_unfolding_all exact Nat.le_of_ble_eq_true rfl) | wtm_at "nn")) | (apply w_lenD; (· wtm_at "lk"))
  | refine w_disp ?_ | refine w_pnil ?_ | refine w_pcons ?_ | (apply w_dispE; (· wtm_at "lk"); (· with_unfolding_all rfl); (· wtm_at "nn"))
  | refine w_dget ?_ | refine w_din ?_ | refine w_dget1 ?_ | refine w_dput ?_ | refine w_dpop1 ?_ | refine w_lenSet ?_ | refine w_listRng ?_ | refine w_notInRng ?_
  | (apply w_inK; (· wtm_at "dk"); (· with_unfolding_all rfl)) | (apply w_inT; (· wtm_at "dk"); (· with_unfolding_all exact keyT_lit))
  | (apply w_isK; (· wtm_at "dk")) | (apply w_isT; (· wtm_at "dk"))
  | (apply w_putK; (· wtm_at "lk"); (· with_unfolding_all rfl); (· wtm_at "nn")) | (apply w_putT; (· wtm_at "lk"); (· with_unfolding_all exact keyT_lit); (· wtm_at "nn")))
local macro_rules | `(tactic| wtm_at "bb") => `(tactic| (simp only [isN, Bool.not_true, Bool.not_false, Bool.or_true, Bool.true_or, Bool.or_false, Bool.false_or, Bool.xor_true, Bool.xor_false]; done))
local macro_rules | `(tactic| wtm_at "kt") => `(tactic| with_reducible first | exact kb_tu_tu | exact kb_tu_li | exact kb_tu_bo | exact kb_tu_st | exact kb_tu_in | exact kb_li_tu | exact kb_li_li | exact kb_li_bo | exact kb_li_st | exact kb_li_in | exact kb_No_tu | exact kb_No_li | exact kb_No_bo | exact kb_No_st | exact kb_No_in | exact kb_bo_tu | exact kb_bo_li | exact kb_bo_bo | exact kb_bo_st | exact kb_bo_in | exact kb_in_tu | exact kb_in_li | exact kb_in_bo | exact kb_in_st | exact kb_in_in | exact kb_st_tu | exact kb_st_li | exact kb_st_bo | exact kb_st_st | exact kb_st_in)
local macro_rules | `(tactic| wtm_at "ty") => `(tactic| first | assumption | exact ty_ref (by wtm_at "lk") | (with_unfolding_all exact rfl))
local macro_rules | `(tactic| wtm_at "x") => `(tactic| with_reducible first
  | (apply w_taken; (· wtm_at "lk"); (· wtm_at "nn"); (· wtm_at "nn")) | (apply w_eqD; (· wtm_at "vl"); (· wtm_at "vl"); (· wtm_at "pl"); (· wtm_at "pl")) | (apply w_neD; (· wtm_at "vl"); (· wtm_at "vl"); (· wtm_at "pl"); (· wtm_at "pl"))
  | (apply vR_row; (· assumption)) | (refine vR_frz (by assumption) ?_) | refine frz_let ?_ | refine w_isi ?_ | refine w_isi2 ?_ | (apply w_isiE; (· wtm_at "ty"); (· wtm_at "kt")) | (apply w_isiE2; (· wtm_at "ty"); (· wtm_at "kt"); (· wtm_at "kt"))
  | refine w_iteT rfl ?_ | refine w_iteF rfl ?_ | (apply w_iteT; (· wtm_at "bb")) | (apply w_iteF; (· wtm_at "bb")))
local macro_rules | `(tactic| wtm_at "w") => `(tactic| repeat (first | wtm_at "1" | wtm_at "x"))
theorem eGet_none {ls : List Mg.Lk} {p : Int × Int} : Mg.eGet ls p = none ↔ p ∉ endsL ls := by
  rw [← endsF_eq]
  unfold Mg.eGet
  simp only [Option.map_eq_none_iff, List.find?_eq_none]
  grind
theorem places_mem {n : Int} {ls : List Mg.Lk} {p : Int × Int} (hn : 0 ≤ n) : p ∈ placesF n ls ↔ PlOk n ls p := by
  unfold placesF
  simp only [List.mem_flatMap, List.mem_map, List.mem_filter, List.mem_range, Option.isNone_iff_eq_none]
  constructor
  · rintro ⟨b, hb, d, ⟨hd, he⟩, rfl⟩
    simp only [List.mem_cons, List.not_mem_nil, or_false] at hd
    exact ⟨by dsimp only; omega, by dsimp only; omega, by dsimp only; omega, by dsimp only; omega, he⟩
  · rintro ⟨h1, h2, h3, h4, h5⟩
    refine ⟨p.1.toNat, by omega, p.2, ⟨?_, ?_⟩, ?_⟩
    · simp only [List.mem_cons, List.not_mem_nil, or_false]; omega
    · rw [Int.toNat_of_nonneg h1]; exact h5
    · rw [Int.toNat_of_nonneg h1]
theorem places_len {n : Int} {ls : List Mg.Lk} (h6 : n ≤ 6) : (placesF n ls).length ≤ 24 := by
  unfold placesF
  have key : ∀ k : Nat, ((List.range k).flatMap fun (b : Nat) => ([0, 1, 2, 3].filter fun d => (Mg.eGet ls ((b : Int), d)).isNone).map fun d => ((b : Int), d)).length ≤ 4 * k := fun k => by
    induction k with
    | zero => simp
    | succ k ih =>
      rw [List.range_succ, List.flatMap_append, List.length_append]
      have : (([0, 1, 2, 3].filter fun d => (Mg.eGet ls ((k : Int), d)).isNone).map fun d => ((k : Int), d)).length ≤ 4 := by
        rw [List.length_map]
        exact List.length_filter_le _ [0, 1, 2, 3]
      simp only [List.flatMap_cons, List.flatMap_nil, List.append_nil]
      omega
  have := key n.toNat
  omega
theorem places_ne {n : Int} {ls : List Mg.Lk} (hw : WebOk n ls) : 0 < (placesF n ls).length := by
  have h1 := hw.n1
  have : (n - 1, (3 : Int)) ∈ placesF n ls := (places_mem (by omega)).mpr ⟨by dsimp only; omega, by dsimp only; omega, by dsimp only; omega, by dsimp only; omega, eGet_none.mpr hw.free⟩
  exact List.length_pos_of_mem this
theorem r_L_ends {K : PySem.W.Frag} : Rd 6 (b_L_ends K) (sp_L_ends K) := by
  rintro _ G Q ⟨n, ls, rfl, hw, q⟩
  have hl10 := hw.len
  wtm_at "st"
  refine vN0 ?_
  unfold b_L_ends
  wtm_at "w"
  intro e he
  wtm_at "w"
  rw [List.length_map]
  refine for_st (fun i ms => ms = ls.take i) (fun _ => [some (webD n ls), some (.ref e), none, none, none, none]) (fun ms => ud G e (.sm (.dT (endsT ms)))) [] rfl rfl rfl (fun _ _ _ _ => trivial) ?_ ?_
  · rintro i d ms hi hit rfl
    have hd : d = (ls[i]).d := by
      rw [List.getElem?_map, List.getElem?_eq_getElem hi] at hit
      exact (Option.some.inj hit).symm
    subst hd
    have ht : ls.take i ++ [ls[i]] = ls.take (i + 1) := by rw [List.take_succ, List.getElem?_eq_getElem hi]; rfl
    have hnd : (endsL (ls.take i ++ [ls[i]])).Nodup := by rw [ht]; exact (endsL_sub (List.take_sublist _ _)).nodup hw.nd
    have hsn := endsT_snoc hnd
    rw [ht] at hsn
    have hl1 := endsT_len (ls.take i)
    rw [List.length_take] at hl1
    generalize ls[i] = l at *
    wtm_at "w"
    refine w_putT ud_same keyT_lit ?_ ?_
    · have := putD_len (kvs := endsT (ls.take i)) (k := ekey (l.a, l.x)) (v := D.tup [D.int l.b, D.int l.y])
      omega
    · wtm_at "w"
      refine w_se _ rfl (.keep (.keep (.drop (.drop (.drop (.drop .refl)))))) ?_
      rw [ud_ud, ud_ud, ← hsn]
  · rintro _ rfl
    rw [List.take_length]
    wtm_at "w"
    exact vR0 (q e he)
theorem w_L_ends {K : PySem.W.Frag} {n : Int} {ls : List Mg.Lk} {G : Gp} {Q : DK} (hw : WebOk n ls) (q : ∀ p, G p = none → Q (.ref p) (ud G p (.sm (.dT (endsT ls))))) : sp_L_ends K [webD n ls] G Q := ⟨n, ls, rfl, hw, q⟩
theorem range_fm4 {f : Int → Option D} : (List.range 4).filterMap (fun (i : Nat) => f (i : Int)) = [(0 : Int), 1, 2, 3].filterMap f := rfl
theorem r_L_places {K : PySem.W.Frag} : Rd 5 (b_L_places K) (sp_L_places K) := by
  rintro _ G Q ⟨n, ls, rfl, hw, q⟩
  have hn1 := hw.n1
  have hn6 := hw.n6
  wtm_at "st"
  refine vN0 ?_
  unfold b_L_places
  wtm_at "w"
  refine w_L_ends hw fun e he => ?_
  wtm_at "w"
  intro f hf
  have hef : e ≠ f := fun z => by rw [z, ud_same] at hf; cases hf
  wtm_at "w"
  have hpl : ∀ k : Nat, placesF ((k + 1 : Nat) : Int) ls = placesF (k : Int) ls ++ ([0, 1, 2, 3].filter fun d => (Mg.eGet ls ((k : Int), d)).isNone).map fun d => ((k : Int), d) := fun k => by
    unfold placesF
    rw [Int.toNat_natCast, Int.toNat_natCast, List.range_succ, List.flatMap_append]
    simp
  refine for_st (fun i k => k = i) (fun _ => [some (webD n ls), some (.ref e), some (.ref f), none, none]) (fun k => ud (ud G e (.sm (.dT (endsT ls)))) f (.sm (.lst ((placesF ((k : Nat) : Int) ls).map P2)))) 0 rfl rfl rfl (fun _ _ _ _ => trivial) ?_ ?_
  · rintro i d k hi rfl rfl
    rw [Int.zero_add]
    have hpk := hpl k
    have hkl := places_len (n := (k : Int)) (ls := ls) (by omega)
    wtm_at "w"
    refine lc_pure (fun j => if Mg.eGet ls ((k : Int), (j : Int)) = none then some (P2 ((k : Int), (j : Int))) else none) (by decide) (fun _ _ _ => trivial) ?_ ?_
    · rintro j d z acc N M hj rfl hz hN hM
      rw [Int.zero_add]
      have hez : e ≠ z := fun y => by rw [← y, ud_ne hef, ud_same] at hz; cases hz
      wtm_at "w"
      rw [valD_ends, Option.isSome_map]
      refine w_ite (fun c => ?_) (fun c => ?_)
      · have c' : Mg.eGet ls ((k : Int), (j : Int)) = none := by
          cases h : Mg.eGet ls ((k : Int), (j : Int)) with
          | none => rfl
          | some w => rw [h] at c; cases c
        wtm_at "w"
        exact hN _ (if_pos c')
      · refine hM (if_neg fun z => ?_)
        rw [z] at c
        cases c
    · intro z hz
      have e4 : ((List.range (Int.toNat 4)).filterMap fun (j : Nat) => if Mg.eGet ls ((k : Int), (j : Int)) = none then some (P2 ((k : Int), (j : Int))) else none) = (([0, 1, 2, 3].filter fun d => (Mg.eGet ls ((k : Int), d)).isNone).map fun d => ((k : Int), d)).map P2 := by
        rw [show Int.toNat 4 = 4 from rfl, range_fm4 (f := fun j => if Mg.eGet ls ((k : Int), j) = none then some (P2 ((k : Int), j)) else none), fm_if (fun j => Mg.eGet ls ((k : Int), j) = none) fun j => P2 ((k : Int), j), List.map_map]
        congr 1
        refine List.filter_congr fun j _ => ?_
        cases Mg.eGet ls ((k : Int), j) <;> rfl
      rw [e4]
      have hl4 : (([0, 1, 2, 3].filter fun d => (Mg.eGet ls ((k : Int), d)).isNone).map fun d => ((k : Int), d)).length ≤ 4 := by
        rw [List.length_map]
        exact List.length_filter_le _ [0, 1, 2, 3]
      wtm_at "w"
      exact w_se (k + 1) rfl (.keep (.keep (.keep (.drop (.drop .refl))))) (by rw [ud_ud, hpk, List.map_append])
  · rintro _ rfl
    rw [Int.toNat_of_nonneg (by omega)]
    wtm_at "w"
    refine vR_sub (fun b x hb => ?_) (q f (by rw [ud_ne (Ne.symm hef)] at hf; exact hf))
    by_cases c : b = f
    · rw [c, ud_same] at hb ⊢
      exact hb
    · rw [ud_ne c] at hb ⊢
      rw [ud_ne (fun z => by rw [z, he] at hb; cases hb)]
      exact hb
end Dg
namespace Dg
open PySem PySem.Spec L2
local macro_rules | `(tactic| wtm_at "ne") => `(tactic| first | assumption | (apply Ne.symm; assumption) | (grind [ud, er]))
local macro_rules | `(tactic| wtm_at "lk") => `(tactic| first | (with_reducible assumption) | (with_reducible exact ud_same) | ((with_reducible refine (ud_ne (by wtm_at "ne")).trans ?_); wtm_at "lk"))
local macro_rules | `(tactic| wtm_at "gl") => `(tactic| first | (with_reducible assumption) | (with_reducible exact lst_ref (by wtm_at "lk")) | (with_reducible exact lstOf_new (by assumption) (by assumption)) | (with_unfolding_all exact rfl))
local macro_rules | `(tactic| wtm_at "vl") => `(tactic| first | (with_reducible exact val_ref (by wtm_at "lk")) | (with_unfolding_all exact rfl))
local macro_rules | `(tactic| wtm_at "dk") => `(tactic| with_reducible first | exact dK_own (by wtm_at "lk") | exact dK_lk (by wtm_at "lk") | exact dT_own (by wtm_at "lk"))
local macro_rules | `(tactic| wtm_at "pl") => `(tactic| with_unfolding_all first | exact rfl | exact all_int _ | exact all_P2 _ | assumption)
local macro_rules | `(tactic| wtm_at "nn") => `(tactic| first | omega | decide | (simp only [List.length_cons, List.length_nil, List.length_map, List.length_append]; omega) | grind)
local macro_rules | `(tactic| wtm_at "st") => `(tactic| (simp only [stD, List.map_cons, List.map_nil, List.length_cons, List.length_nil, List.replicate, Nat.reduceAdd, Nat.reduceSub, List.cons_append, List.nil_append]))
local macro_rules | `(tactic| wtm_at "1") => `(tactic| with_reducible first
  | refine w_seq ?_ | refine w_asgN ?_ | refine w_asgS ?_ | refine w_asgT ?_ | refine w_ret ?_ | refine w_drop ?_ | refine w_ifS ?_ | refine w_test ?_ | refine w_next ?_
  | refine w_nx ?_ | refine w_nx0 ?_ | refine w_rt ?_ | refine w_bk ?_ | refine w_ct ?_
  | refine w_bl2 ?_ | refine w_and ?_ | refine w_or ?_ | refine w_not ?_ | refine w_andV ?_ | refine w_orV ?_ | refine w_notV ?_ | refine w_if ?_
  | (apply w_var; (· with_unfolding_all rfl)) | refine w_c ?_ | refine w_op ?_ | refine w_chain ?_ | refine w_nil ?_ | refine w_cons ?_ | refine w_tup ?_ | refine w_lst ?_
  | (apply w_len; (· wtm_at "nn")) | refine w_call ?_ | refine w_cb ?_ | refine w_isN ?_ | refine w_notN ?_ | refine w_fz ?_
  | refine w_add ?_ | refine w_sub ?_ | refine w_lt ?_ | refine w_le ?_ | refine w_gt ?_ | refine w_ge ?_ | (apply w_mod; (· wtm_at "nn")) | (apply w_div; (· wtm_at "nn"); (· wtm_at "nn"))
  | (apply w_eq; (· with_unfolding_all rfl)) | (apply w_ne; (· with_unfolding_all rfl))
  | (apply w_ixT; (· with_unfolding_all rfl)) | (apply w_ixL; (· wtm_at "gl"); (· with_unfolding_all rfl))
  | refine w_lenT ?_ | (apply w_lenL; (· wtm_at "gl")) | refine w_min2 ?_ | refine w_max2 ?_ | refine w_intB ?_ | (apply w_tupleL; (· wtm_at "gl"))
  | refine w_bm ?_ | refine w_bm0 ?_ | (apply w_ty; (· wtm_at "gl"))
  | (apply w_setL; (· wtm_at "lk"); (· with_unfolding_all rfl)) | (apply w_append; (· wtm_at "lk"); (· wtm_at "nn")) | (apply w_extend; (· wtm_at "lk"); (· wtm_at "gl"); (· wtm_at "nn"))
  | refine w_hcons ?_ | refine w_hnil ?_ | refine w_hname ?_ | (apply w_htup; (· with_unfolding_all rfl)) | (apply w_exT; (· with_unfolding_all rfl))
  | refine w_lcR1 ?_ | refine w_lcL ?_ | refine w_lcT ?_ | refine w_forR1 ?_ | refine w_forR2 ?_ | refine w_forL ?_ | refine w_forT ?_ | refine w_yes ?_ | refine w_cnm ?_ | (apply w_ctp; (· with_unfolding_all rfl))
  | (apply w_exL; (· wtm_at "gl")) | refine w_exTu ?_ | (apply w_exI; (· wtm_at "nn")) | (apply w_exI2; (· wtm_at "nn")) | refine w_exII ?_
  | refine w_lcK ?_ | refine w_fld ?_ | refine w_fldS ?_ | refine w_meth ?_ | refine w_make ?_ | (apply w_fldE; (· wtm_at "lk"); (· with_unfolding_all rfl)) | (apply w_fldSE; (· wtm_at "lk"); (· first | exact insF_lt | (with_unfolding_all exact Nat.le_of_ble_eq_true rfl) | wtm_at "nn")) | (apply w_lenD; (· wtm_at "lk"))
  | refine w_disp ?_ | refine w_pnil ?_ | refine w_pcons ?_ | (apply w_dispE; (· wtm_at "lk"); (· with_unfolding_all rfl); (· wtm_at "nn"))
  | refine w_dget ?_ | refine w_din ?_ | refine w_dget1 ?_ | refine w_dput ?_ | refine w_dpop1 ?_ | refine w_lenSet ?_ | refine w_listRng ?_ | refine w_notInRng ?_
  | (apply w_inK; (· wtm_at "dk"); (· with_unfolding_all rfl)) | (apply w_inT; (· wtm_at "dk"); (· with_unfolding_all exact keyT_lit))
  | (apply w_lkK; (· wtm_at "dk"); (· with_unfolding_all rfl); (· first | exact lv_web | exact lv_age | exact lv_room | exact lv_spots | exact lv_known | exact lv_time)) | (apply w_isK; (· wtm_at "dk")) | (apply w_isT; (· wtm_at "dk"))
  | (apply w_putK; (· wtm_at "lk"); (· with_unfolding_all rfl); (· wtm_at "nn")) | (apply w_putT; (· wtm_at "lk"); (· with_unfolding_all exact keyT_lit); (· wtm_at "nn")))
local macro_rules | `(tactic| wtm_at "bb") => `(tactic| (simp only [isN, Bool.not_true, Bool.not_false, Bool.or_true, Bool.true_or, Bool.or_false, Bool.false_or, Bool.xor_true, Bool.xor_false]; done))
local macro_rules | `(tactic| wtm_at "kt") => `(tactic| with_reducible first | exact kb_tu_tu | exact kb_tu_li | exact kb_tu_bo | exact kb_tu_st | exact kb_tu_in | exact kb_li_tu | exact kb_li_li | exact kb_li_bo | exact kb_li_st | exact kb_li_in | exact kb_No_tu | exact kb_No_li | exact kb_No_bo | exact kb_No_st | exact kb_No_in | exact kb_bo_tu | exact kb_bo_li | exact kb_bo_bo | exact kb_bo_st | exact kb_bo_in | exact kb_in_tu | exact kb_in_li | exact kb_in_bo | exact kb_in_st | exact kb_in_in | exact kb_st_tu | exact kb_st_li | exact kb_st_bo | exact kb_st_st | exact kb_st_in)
local macro_rules | `(tactic| wtm_at "ty") => `(tactic| first | assumption | exact ty_ref (by wtm_at "lk") | (with_unfolding_all exact rfl))
local macro_rules | `(tactic| wtm_at "x") => `(tactic| with_reducible first
  | (apply w_taken; (· wtm_at "lk"); (· wtm_at "nn"); (· wtm_at "nn")) | (apply w_eqD; (· wtm_at "vl"); (· wtm_at "vl"); (· wtm_at "pl"); (· wtm_at "pl")) | (apply w_neD; (· wtm_at "vl"); (· wtm_at "vl"); (· wtm_at "pl"); (· wtm_at "pl"))
  | (apply vR_row; (· assumption)) | (refine vR_frz (by assumption) ?_) | refine frz_let ?_ | refine w_isi ?_ | refine w_isi2 ?_ | (apply w_isiE; (· wtm_at "ty"); (· wtm_at "kt")) | (apply w_isiE2; (· wtm_at "ty"); (· wtm_at "kt"); (· wtm_at "kt"))
  | refine w_iteT rfl ?_ | refine w_iteF rfl ?_ | (apply w_iteT; (· wtm_at "bb")) | (apply w_iteF; (· wtm_at "bb")))
local macro_rules | `(tactic| wtm_at "w") => `(tactic| repeat (first | wtm_at "1" | wtm_at "x"))
theorem pick3 {a b c i : Int} (h0 : 0 ≤ i) (h3 : i < 3) : ∃ v, atI [D.int a, D.int b, D.int c] i = some (.int v) ∧ (v = a ∨ v = b ∨ v = c) := by
  have : i = 0 ∨ i = 1 ∨ i = 2 := by omega
  rcases this with rfl | rfl | rfl
  · exact ⟨a, rfl, .inl rfl⟩
  · exact ⟨b, rfl, .inr (.inl rfl)⟩
  · exact ⟨c, rfl, .inr (.inr rfl)⟩
theorem pls_get {ps : List (Int × Int)} {i : Int} (h0 : 0 ≤ i) (h1 : i < ps.length) : ∃ p ∈ ps, atI (ps.map P2) i = some (P2 p) := by
  refine ⟨ps[i.toNat]'(by omega), List.getElem_mem _, ?_⟩
  rw [atI_pos h0 (by rw [List.length_map]; omega), List.getElem?_map, List.getElem?_eq_getElem (by omega)]
  rfl
theorem w_L_places {K : PySem.W.Frag} {n : Int} {ls : List Mg.Lk} {G : Gp} {Q : DK} (hw : WebOk n ls) (q : ∀ p, G p = none → Q (.ref p) (ud G p (.sm (.lst ((placesF n ls).map P2))))) : sp_L_places K [webD n ls] G Q := ⟨n, ls, rfl, hw, q⟩
theorem r_L_fresh {K : PySem.W.Frag} : Rd 8 (b_L_fresh K) (sp_L_fresh K) := by
  rintro _ G Q ⟨r, n, ls, rfl, hr, hw, q⟩
  have hn1 := hw.n1
  have hn6 := hw.n6
  wtm_at "st"
  refine vN0 ?_
  unfold b_L_fresh
  wtm_at "w"
  refine w_L_places hw fun so hso => ?_
  have hmem := fun p => places_mem (n := n) (ls := ls) (p := p) (by omega)
  have hpn := places_ne hw
  have hpl := places_len (n := n) (ls := ls) hn6
  generalize placesF n ls = pls at *
  have hrs : r ≠ so := fun z => by rw [← z, hr] at hso; cases hso
  wtm_at "w"
  intro v hv0 hv8
  wtm_at "w"
  refine lc_rel (fun i acc => ∃ sp : List (Int × Int), acc = sp.map P2 ∧ sp.length = i ∧ ∀ p ∈ sp, PlOk n ls p) (by omega) ⟨[], rfl, rfl, by simp⟩ (fun _ _ _ => trivial) ?_ ?_
  · rintro i d z acc N M hi rfl hz ⟨sp, rfl, h1, h2⟩ hN hM
    wtm_at "w"
    rw [List.length_map]
    intro k hk0 hk1
    obtain ⟨p, hp, hat⟩ := pls_get hk0 hk1
    have hso2 : so ≠ z := fun y => by rw [← y, ud_same] at hz; cases hz
    refine w_ixL (lst_ref ((ud_ne hso2).trans ud_same)) hat ?_
    exact hN _ ⟨sp ++ [p], by simp, by simp [h1], fun y hy => by
      rcases List.mem_append.mp hy with w | w
      · exact h2 y w
      · simp only [List.mem_singleton] at w
        rw [w]
        exact (hmem p).mp hp⟩
  · rintro z acc hz ⟨sp, rfl, h1, h2⟩
    have hrz : r ≠ z := fun y => by rw [← y, ud_ne hrs, hr] at hz; cases hz
    have hsz : z ≠ so := fun y => by rw [y, ud_same] at hz; cases hz
    have hz0 : G z = none := by rw [ud_ne hsz] at hz; exact hz
    wtm_at "w"
    intro k1 hk10 hk11
    wtm_at "w"
    intro k2 hk20 hk21
    obtain ⟨age, hage, hage2⟩ := pick3 (a := 20) (b := 3) (c := k1) hk20 hk21
    refine w_ixL rfl hage ?_
    wtm_at "w"
    intro k3 hk30 hk31
    wtm_at "w"
    intro k4 hk40 hk41
    obtain ⟨room, hroom, hroom2⟩ := pick3 (a := 8) (b := 8) (c := 1 + k3) hk40 hk41
    refine w_ixL rfl hroom ?_
    wtm_at "w"
    intro a ha
    have haz : a ≠ z := fun y => by rw [y, ud_same] at ha; cases ha
    have has : a ≠ so := fun y => by rw [y, ud_ne (Ne.symm hsz), ud_same] at ha; cases ha
    have ha0 : G a = none := by rw [ud_ne haz, ud_ne has] at ha; exact ha
    wtm_at "w"
    refine lc_pure (fun _ => some (.lst [])) (by omega) (fun _ _ _ => trivial) ?_ ?_
    · rintro j d y acc N M hj rfl hy hN hM
      wtm_at "w"
      exact hN _ rfl
    · intro k hk
      have hka : k ≠ a := fun y => by rw [y, ud_same] at hk; cases hk
      have hkz : k ≠ z := fun y => by rw [y, ud_ne (Ne.symm haz), ud_same] at hk; cases hk
      have hks : k ≠ so := fun y => by rw [y, ud_ne (Ne.symm has), ud_ne (Ne.symm hsz), ud_same] at hk; cases hk
      have hk0 : G k = none := by rw [ud_ne hka, ud_ne hkz, ud_ne hks] at hk; exact hk
      wtm_at "w"
      have e1 : (List.filterMap (fun (_ : Nat) => some (D.lst [])) (List.range n.toNat)) = (List.replicate n.toNat ([] : Mg.Kn)).map knD := by
        rw [List.map_replicate]
        have : ∀ xs : List Nat, List.filterMap (fun (_ : Nat) => some (D.lst [])) xs = List.replicate xs.length (D.lst []) := fun xs => by
          induction xs with
          | nil => rfl
          | cons x xs ih => rw [List.filterMap_cons, ih]; rfl
        rw [this, List.length_range]
        simp [knD, Mg.srt, Mg.srtK, Mg.kKeys]
      rw [e1]
      refine vR0 (q ⟨a, z, k⟩ ⟨n, ls, age, room, sp, List.replicate n.toNat [], 0⟩ _ ⟨ud_same, ?_, ?_, haz, Ne.symm hka, Ne.symm hkz⟩ ⟨hw, ?_, ?_, ?_, ?_, ?_, ?_, h2, ?_, ?_, by dsimp only; omega, by dsimp only; omega⟩ rfl rfl rfl rfl ?_ ha0 hz0 hk0)
      · exact (ud_ne (Ne.symm haz)).trans ((ud_ne (Ne.symm hkz)).trans ((ud_ne (Ne.symm haz)).trans ud_same))
      · exact (ud_ne hka).trans ud_same
      · dsimp only; omega
      · dsimp only; omega
      · dsimp only; omega
      · dsimp only; omega
      · dsimp only; omega
      · dsimp only; omega
      · simp only [List.length_replicate]; omega
      · intro kn hkn
        rw [(List.mem_replicate.mp hkn).2]
        exact ⟨by simp [Mg.kKeys], by simp only [List.length_nil]; omega, by simp⟩
      · rintro b ⟨b1, b2, b3⟩ x hb
        dsimp only at b1 b2 b3
        rw [ud_ne b1, ud_ne b3, ud_ne b1, ud_ne b2, ud_ne (fun y => by rw [y, hso] at hb; cases hb)]
        exact hb
theorem r_L_net {K : PySem.W.Frag} : Rd 1 (b_L_net K) (sp_L_net K) := by
  rintro _ G Q ⟨l, st, rfl, ho, hok, q⟩
  have ga := ho.ga
  have gs := ho.gs
  wtm_at "st"
  refine vN0 ?_
  unfold b_L_net
  wtm_at "w"
  refine w_listL (lst_ref gs) fun p hp => ?_
  refine vR_frz hp ?_
  wtm_at "w"
  intro x dx hx
  refine ⟨x, dx, st.n, st.ls, st.age, st.room, _, st.spots, rfl, ud_same, hok.web, hok.a0, hok.a20, hok.r1, hok.r8, rfl, hok.h1, hok.h8, hok.pl, rfl, ?_⟩
  rw [ud_ud]
  exact vR0 (q x hx)
end Dg
namespace Dg
open PySem PySem.Spec L2
local macro_rules | `(tactic| wtm_at "ne") => `(tactic| first | assumption | (apply Ne.symm; assumption) | (grind [ud, er]))
local macro_rules | `(tactic| wtm_at "lk") => `(tactic| first | (with_reducible assumption) | (with_reducible exact ud_same) | ((with_reducible refine (ud_ne (by wtm_at "ne")).trans ?_); wtm_at "lk"))
local macro_rules | `(tactic| wtm_at "gl") => `(tactic| first | (with_reducible assumption) | (with_reducible exact lst_ref (by wtm_at "lk")) | (with_reducible exact lstOf_new (by assumption) (by assumption)) | (with_unfolding_all exact rfl))
local macro_rules | `(tactic| wtm_at "vl") => `(tactic| first | (with_reducible exact val_ref (by wtm_at "lk")) | (with_unfolding_all exact rfl))
local macro_rules | `(tactic| wtm_at "dk") => `(tactic| with_reducible first | exact dK_own (by wtm_at "lk") | exact dK_lk (by wtm_at "lk") | exact dT_own (by wtm_at "lk"))
local macro_rules | `(tactic| wtm_at "pl") => `(tactic| with_unfolding_all first | exact rfl | exact all_int _ | exact all_P2 _ | assumption)
local macro_rules | `(tactic| wtm_at "nn") => `(tactic| first | omega | decide | (simp only [List.length_cons, List.length_nil, List.length_map, List.length_append]; omega) | grind)
local macro_rules | `(tactic| wtm_at "st") => `(tactic| (simp only [stD, List.map_cons, List.map_nil, List.length_cons, List.length_nil, List.replicate, Nat.reduceAdd, Nat.reduceSub, List.cons_append, List.nil_append]))
local macro_rules | `(tactic| wtm_at "1") => `(tactic| with_reducible first
  | refine w_seq ?_ | refine w_asgN ?_ | refine w_asgS ?_ | refine w_asgT ?_ | refine w_ret ?_ | refine w_drop ?_ | refine w_ifS ?_ | refine w_test ?_ | refine w_next ?_
  | refine w_nx ?_ | refine w_nx0 ?_ | refine w_rt ?_ | refine w_bk ?_ | refine w_ct ?_
  | refine w_bl2 ?_ | refine w_and ?_ | refine w_or ?_ | refine w_not ?_ | refine w_andV ?_ | refine w_orV ?_ | refine w_notV ?_ | refine w_if ?_
  | (apply w_var; (· with_unfolding_all rfl)) | refine w_c ?_ | refine w_op ?_ | refine w_chain ?_ | refine w_nil ?_ | refine w_cons ?_ | refine w_tup ?_ | refine w_lst ?_
  | (apply w_len; (· wtm_at "nn")) | refine w_call ?_ | refine w_cb ?_ | refine w_isN ?_ | refine w_notN ?_ | refine w_fz ?_
  | refine w_add ?_ | refine w_sub ?_ | refine w_lt ?_ | refine w_le ?_ | refine w_gt ?_ | refine w_ge ?_ | (apply w_mod; (· wtm_at "nn")) | (apply w_div; (· wtm_at "nn"); (· wtm_at "nn"))
  | (apply w_eq; (· with_unfolding_all rfl)) | (apply w_ne; (· with_unfolding_all rfl))
  | (apply w_ixT; (· with_unfolding_all rfl)) | (apply w_ixL; (· wtm_at "gl"); (· with_unfolding_all rfl))
  | refine w_lenT ?_ | (apply w_lenL; (· wtm_at "gl")) | refine w_min2 ?_ | refine w_max2 ?_ | refine w_intB ?_ | (apply w_tupleL; (· wtm_at "gl"))
  | refine w_bm ?_ | refine w_bm0 ?_ | (apply w_ty; (· wtm_at "gl"))
  | (apply w_setL; (· wtm_at "lk"); (· with_unfolding_all rfl)) | (apply w_append; (· wtm_at "lk"); (· wtm_at "nn")) | (apply w_extend; (· wtm_at "lk"); (· wtm_at "gl"); (· wtm_at "nn"))
  | refine w_hcons ?_ | refine w_hnil ?_ | refine w_hname ?_ | (apply w_htup; (· with_unfolding_all rfl)) | (apply w_exT; (· with_unfolding_all rfl))
  | refine w_lcR1 ?_ | refine w_lcL ?_ | refine w_lcT ?_ | refine w_forR1 ?_ | refine w_forR2 ?_ | refine w_forL ?_ | refine w_forT ?_ | refine w_yes ?_ | refine w_cnm ?_ | (apply w_ctp; (· with_unfolding_all rfl))
  | (apply w_exL; (· wtm_at "gl")) | refine w_exTu ?_ | (apply w_exI; (· wtm_at "nn")) | (apply w_exI2; (· wtm_at "nn")) | refine w_exII ?_
  | refine w_lcK ?_ | refine w_fld ?_ | refine w_fldS ?_ | refine w_meth ?_ | refine w_make ?_ | (apply w_fldE; (· wtm_at "lk"); (· with_unfolding_all rfl)) | (apply w_fldSE; (· wtm_at "lk"); (· first | exact insF_lt | (with_unfolding_all exact Nat.le_of_ble_eq_true rfl) | wtm_at "nn")) | (apply w_lenD; (· wtm_at "lk"))
  | refine w_disp ?_ | refine w_pnil ?_ | refine w_pcons ?_ | (apply w_dispE; (· wtm_at "lk"); (· with_unfolding_all rfl); (· wtm_at "nn"))
  | refine w_dget ?_ | refine w_din ?_ | refine w_dget1 ?_ | refine w_dput ?_ | refine w_dpop1 ?_ | refine w_lenSet ?_ | refine w_listRng ?_ | refine w_notInRng ?_
  | (apply w_inK; (· wtm_at "dk"); (· with_unfolding_all rfl)) | (apply w_inT; (· wtm_at "dk"); (· with_unfolding_all exact keyT_lit))
  | (apply w_lkK; (· wtm_at "dk"); (· with_unfolding_all rfl); (· first | exact lv_web | exact lv_age | exact lv_room | exact lv_spots | exact lv_known | exact lv_time)) | (apply w_isK; (· wtm_at "dk")) | (apply w_isT; (· wtm_at "dk"))
  | (apply w_putK; (· wtm_at "lk"); (· with_unfolding_all rfl); (· wtm_at "nn")) | (apply w_putT; (· wtm_at "lk"); (· with_unfolding_all exact keyT_lit); (· wtm_at "nn")))
local macro_rules | `(tactic| wtm_at "bb") => `(tactic| (simp only [isN, Bool.not_true, Bool.not_false, Bool.or_true, Bool.true_or, Bool.or_false, Bool.false_or, Bool.xor_true, Bool.xor_false]; done))
local macro_rules | `(tactic| wtm_at "kt") => `(tactic| with_reducible first | exact kb_tu_tu | exact kb_tu_li | exact kb_tu_bo | exact kb_tu_st | exact kb_tu_in | exact kb_li_tu | exact kb_li_li | exact kb_li_bo | exact kb_li_st | exact kb_li_in | exact kb_No_tu | exact kb_No_li | exact kb_No_bo | exact kb_No_st | exact kb_No_in | exact kb_bo_tu | exact kb_bo_li | exact kb_bo_bo | exact kb_bo_st | exact kb_bo_in | exact kb_in_tu | exact kb_in_li | exact kb_in_bo | exact kb_in_st | exact kb_in_in | exact kb_st_tu | exact kb_st_li | exact kb_st_bo | exact kb_st_st | exact kb_st_in)
local macro_rules | `(tactic| wtm_at "ty") => `(tactic| first | assumption | exact ty_ref (by wtm_at "lk") | (with_unfolding_all exact rfl))
local macro_rules | `(tactic| wtm_at "x") => `(tactic| with_reducible first
  | (apply w_taken; (· wtm_at "lk"); (· wtm_at "nn"); (· wtm_at "nn")) | (apply w_eqD; (· wtm_at "vl"); (· wtm_at "vl"); (· wtm_at "pl"); (· wtm_at "pl")) | (apply w_neD; (· wtm_at "vl"); (· wtm_at "vl"); (· wtm_at "pl"); (· wtm_at "pl"))
  | (apply vR_row; (· assumption)) | (refine vR_frz (by assumption) ?_) | refine frz_let ?_ | refine w_isi ?_ | refine w_isi2 ?_ | (apply w_isiE; (· wtm_at "ty"); (· wtm_at "kt")) | (apply w_isiE2; (· wtm_at "ty"); (· wtm_at "kt"); (· wtm_at "kt"))
  | refine w_iteT rfl ?_ | refine w_iteF rfl ?_ | (apply w_iteT; (· wtm_at "bb")) | (apply w_iteF; (· wtm_at "bb")))
local macro_rules | `(tactic| wtm_at "w") => `(tactic| repeat (first | wtm_at "1" | wtm_at "x"))
theorem srt_len {kn : Mg.Kn} (nd : (Mg.kKeys kn).Nodup) : (Mg.srt kn).length = kn.length := (Mg.srt_perm nd).length_eq
end Dg
namespace Dg
open Mg (Lk Kn NS Ltr)
theorem hosts_range {st : NS} {p : Int × Int} : ∀ x ∈ Mg.hostsF st p, 0 ≤ x ∧ x < st.spots.length := by
  intro x hx
  unfold Mg.hostsF at hx
  simp only [List.mem_map, List.mem_filter, List.mem_range] at hx
  obtain ⟨i, ⟨h1, _⟩, rfl⟩ := hx
  omega
/-- a letter under way -/
structure LtrOk (st : NS) (t : Int) (c : Ltr) : Prop where
  ok : NOk c.st
  now : c.st.now = t
  spots : c.st.spots = st.spots
  n : c.st.n = st.n
  ls : c.st.ls = st.ls
  age : c.st.age = st.age
  room : c.st.room = st.room
  w : ∀ p ∈ c.w, BxOk st.n p
  s0 : 0 ≤ c.steps
  wl : (c.w.length : Int) ≤ 1 + 4 * c.steps
  gl : (c.got.length : Int) ≤ 8 + 40 * c.steps
  got : ∀ x ∈ c.got, 0 ≤ x ∧ x < st.spots.length
theorem now_ok {st : NS} (hok : NOk st) {t : Int} (h0 : st.now ≤ t) (h1 : t ≤ 1000) : NOk { st with now := t } :=
  ⟨hok.web, hok.a0, hok.a20, hok.r1, hok.r8, hok.h1, hok.h8, hok.pl, hok.kl, fun kn hk => by
    obtain ⟨n1, n2, n3⟩ := hok.kn kn hk
    exact ⟨n1, n2, fun p hp => let ⟨a, b, c, d, e, f⟩ := n3 p hp; ⟨a, b, c, d, e, by show p.2.2 ≤ t; omega⟩⟩, by have := hok.t0; show 0 ≤ t; omega, h1⟩
theorem move_ok {st : NS} (hok : NOk st) {t h : Int} {p : Int × Int} (h0 : st.now ≤ t) (h1 : t ≤ 1000) (hp : PlOk st.n st.ls p) : NOk (Mg.moveF st t h p) := by
  have := now_ok hok h0 h1
  obtain ⟨a1, a2, a3, a4, a5, a6, a7, a8, a9, a10, a11, a12⟩ := this
  refine ⟨a1, a2, a3, a4, a5, ?_, ?_, ?_, a9, ?_, a11, a12⟩
  · show 1 ≤ (st.spots.set h.toNat p).length
    rw [List.length_set]; exact a6
  · show (st.spots.set h.toNat p).length ≤ 8
    rw [List.length_set]; exact a7
  · intro q hq
    rcases List.mem_or_eq_of_mem_set hq with z | z
    · exact a8 q z
    · rw [z]; exact hp
  · intro kn hkn
    have : (Mg.moveF st t h p).spots.length = st.spots.length := List.length_set ..
    rw [this]
    exact a10 kn hkn
theorem ltr0_ok {st : NS} (hok : NOk st) {t h : Int} {to : Option Int} (hl : LtOk st t h to) : LtrOk st t (Mg.ltr0 st t h) := by
  obtain ⟨l0, l1, l2, l3, l4⟩ := hl
  have spo := hok.pl _ (spot_at l2 l3).2
  have h8 := hok.h8
  have hh := hosts_len (st := st) (p := Mg.spotF st h)
  have h2 := List.length_filter_le (fun o => decide (o ≠ h)) (Mg.hostsF st (Mg.spotF st h))
  refine ⟨now_ok hok l0 l1, rfl, rfl, rfl, rfl, rfl, rfl, ?_, Int.le_refl 0, ?_, ?_, ?_⟩
  · simp only [Mg.ltr0, List.mem_singleton]
    rintro p rfl
    exact ⟨spo.b0, spo.bn, spo.d0, spo.d4⟩
  · simp [Mg.ltr0]
  · simp only [Mg.ltr0]
    omega
  · intro x hx
    exact hosts_range x (List.mem_filter.mp hx).1
theorem outs_fold {st : NS} {n : Int} (hok : NOk st) (hn : st.n = n) {b : Int} : ∀ (os : List Int) (wg : List (Int × Int) × List Int), (∀ p ∈ wg.1, BxOk n p) → (∀ x ∈ wg.2, 0 ≤ x ∧ x < st.spots.length) →
    (os.foldl (Mg.outF st b) wg).1.length ≤ wg.1.length + os.length ∧ (os.foldl (Mg.outF st b) wg).2.length ≤ wg.2.length + 8 * os.length ∧ (∀ p ∈ (os.foldl (Mg.outF st b) wg).1, BxOk n p) ∧ ∀ x ∈ (os.foldl (Mg.outF st b) wg).2, 0 ≤ x ∧ x < st.spots.length
  | [], wg, h1, h2 => ⟨by simp, by simp, h1, h2⟩
  | o :: os, wg, h1, h2 => by
    have h8 := hok.h8
    have hh := hosts_len (st := st) (p := (b, o))
    rw [List.foldl_cons]
    unfold Mg.outF
    cases e : Mg.eGet st.ls (b, o) with
    | some en =>
      have ih := outs_fold hok hn (b := b) os (wg.1 ++ [en], wg.2) (fun p hp => by
        rcases List.mem_append.mp hp with z | z
        · exact h1 p z
        · simp only [List.mem_singleton] at z
          rw [z, ← hn]
          exact eGet_ok hok.web e) h2
      unfold Mg.outF at ih
      obtain ⟨i1, i2, i3, i4⟩ := ih
      dsimp only at i1 i2
      rw [List.length_append] at i1
      simp only [List.length_cons, List.length_nil] at i1 ⊢
      exact ⟨by omega, by omega, i3, i4⟩
    | none =>
      have ih := outs_fold hok hn (b := b) os (wg.1, wg.2 ++ Mg.hostsF st (b, o)) h1 (fun x hx => by
        rcases List.mem_append.mp hx with z | z
        · exact h2 x z
        · exact hosts_range x z)
      unfold Mg.outF at ih
      obtain ⟨i1, i2, i3, i4⟩ := ih
      dsimp only at i1 i2
      rw [List.length_append] at i2
      simp only [List.length_cons] at i1 i2 ⊢
      exact ⟨by omega, by omega, i3, i4⟩
theorem step_eq {h : Int} {to : Option Int} {t : Int} {c : Ltr} {p : Int × Int} {w : List (Int × Int)} (e : c.w = p :: w) : Mg.stepF h to t c = ⟨Mg.learnF c.st p.1 h p.2 t, ((Mg.outsF (Mg.learnF c.st p.1 h p.2 t) p.1 p.2 to t).foldl (Mg.outF (Mg.learnF c.st p.1 h p.2 t) p.1) (w, c.got)).1, ((Mg.outsF (Mg.learnF c.st p.1 h p.2 t) p.1 p.2 to t).foldl (Mg.outF (Mg.learnF c.st p.1 h p.2 t) p.1) (w, c.got)).2, c.steps + 1⟩ := by
  unfold Mg.stepF
  rw [e]
theorem learn_ok {st : NS} {t h : Int} {c : Ltr} {p : Int × Int} (hc : LtrOk st t c) (hp : BxOk st.n p) (h0 : 0 ≤ h) (h1 : h < st.spots.length) : NOk (Mg.learnF c.st p.1 h p.2 t) :=
  learnF_ok hc.ok hp.1 (by rw [hc.n]; exact hp.2.1) h0 (by rw [hc.spots]; exact h1) hp.2.2.1 hp.2.2.2 hc.now.symm
theorem step_ok {st : NS} {t h : Int} {to : Option Int} {c : Ltr} (hc : LtrOk st t c) (h0 : 0 ≤ h) (h1 : h < st.spots.length) : LtrOk st t (Mg.stepF h to t c) := by
  cases e : c.w with
  | nil =>
    have : Mg.stepF h to t c = c := by unfold Mg.stepF; rw [e]
    rw [this]
    exact hc
  | cons p w =>
    rw [step_eq e]
    have hp := hc.w p (by rw [e]; exact List.mem_cons_self ..)
    have ok3 := learn_ok hc hp h0 h1
    have hsp : (Mg.learnF c.st p.1 h p.2 t).spots = st.spots := hc.spots
    have hol := outs_ok ok3 (d := p.2) (to := to) (t := t) hp.1 (by show p.1 < c.st.n; rw [hc.n]; exact hp.2.1)
    obtain ⟨i1, i2, i3, i4⟩ := outs_fold ok3 (show (Mg.learnF c.st p.1 h p.2 t).n = st.n from hc.n) (b := p.1) (Mg.outsF (Mg.learnF c.st p.1 h p.2 t) p.1 p.2 to t) (w, c.got) (fun q hq => hc.w q (by rw [e]; exact List.mem_cons_of_mem _ hq)) (fun x hx => by rw [hsp]; exact hc.got x hx)
    have hwl := hc.wl
    have hgl := hc.gl
    have hs0 := hc.s0
    rw [e] at hwl
    simp only [List.length_cons] at hwl
    dsimp only at i1 i2
    rw [hsp] at i4
    exact ⟨ok3, hc.now, hc.spots, hc.n, hc.ls, hc.age, hc.room, i3, by dsimp only; omega, by dsimp only; omega, by dsimp only; omega, i4⟩
theorem go_ok {st : NS} {t h : Int} {to : Option Int} (h0 : 0 ≤ h) (h1 : h < st.spots.length) : ∀ (m : Nat) {c : Ltr}, LtrOk st t c → LtrOk st t (Mg.goF h to t m c) ∧ (Mg.goF h to t m c).steps ≤ c.steps + m
  | 0, c, hc => ⟨hc, by simp [Mg.goF]⟩
  | m + 1, c, hc => by
    rw [Mg.goF]
    split
    · exact ⟨hc, by omega⟩
    · obtain ⟨a, b⟩ := go_ok h0 h1 m (step_ok (to := to) hc h0 h1)
      refine ⟨a, ?_⟩
      have : (Mg.stepF h to t c).steps ≤ c.steps + 1 := by
        unfold Mg.stepF
        split
        · omega
        · exact Int.le_refl _
      omega
theorem send_ok {st : NS} {t h : Int} {to : Option Int} (hok : NOk st) (hl : LtOk st t h to) : LtrOk st t (Mg.sendF st t h to) ∧ (Mg.sendF st t h to).steps ≤ 60 := by
  have := go_ok (to := to) hl.2.2.1 hl.2.2.2.1 60 (ltr0_ok hok hl)
  exact ⟨this.1, by have h2 := this.2; unfold Mg.sendF; simpa [Mg.ltr0] using h2⟩
end Dg
namespace Dg
open PySem PySem.Spec L2
local macro_rules | `(tactic| wtm_at "ne") => `(tactic| first | assumption | (apply Ne.symm; assumption) | (grind [ud, er]))
local macro_rules | `(tactic| wtm_at "lk") => `(tactic| first | (with_reducible assumption) | (with_reducible exact ud_same) | ((with_reducible refine (ud_ne (by wtm_at "ne")).trans ?_); wtm_at "lk"))
local macro_rules | `(tactic| wtm_at "gl") => `(tactic| first | (with_reducible assumption) | (with_reducible exact lst_ref (by wtm_at "lk")) | (with_reducible exact lstOf_new (by assumption) (by assumption)) | (with_unfolding_all exact rfl))
local macro_rules | `(tactic| wtm_at "vl") => `(tactic| first | (with_reducible exact val_ref (by wtm_at "lk")) | (with_unfolding_all exact rfl))
local macro_rules | `(tactic| wtm_at "dk") => `(tactic| with_reducible first | exact dK_own (by wtm_at "lk") | exact dK_lk (by wtm_at "lk") | exact dT_own (by wtm_at "lk"))
local macro_rules | `(tactic| wtm_at "pl") => `(tactic| with_unfolding_all first | exact rfl | exact all_int _ | exact all_P2 _ | assumption)
local macro_rules | `(tactic| wtm_at "nn") => `(tactic| first | omega | decide | (simp only [List.length_cons, List.length_nil, List.length_map, List.length_append]; omega) | grind)
local macro_rules | `(tactic| wtm_at "st") => `(tactic| (simp only [stD, List.map_cons, List.map_nil, List.length_cons, List.length_nil, List.replicate, Nat.reduceAdd, Nat.reduceSub, List.cons_append, List.nil_append]))
local macro_rules | `(tactic| wtm_at "1") => `(tactic| with_reducible first
  | refine w_seq ?_ | refine w_asgN ?_ | refine w_asgS ?_ | refine w_asgT ?_ | refine w_ret ?_ | refine w_drop ?_ | refine w_ifS ?_ | refine w_test ?_ | refine w_next ?_
  | refine w_nx ?_ | refine w_nx0 ?_ | refine w_rt ?_ | refine w_bk ?_ | refine w_ct ?_
  | refine w_bl2 ?_ | refine w_and ?_ | refine w_or ?_ | refine w_not ?_ | refine w_andV ?_ | refine w_orV ?_ | refine w_notV ?_ | refine w_if ?_
  | (apply w_var; (· with_unfolding_all rfl)) | refine w_c ?_ | refine w_op ?_ | refine w_chain ?_ | refine w_nil ?_ | refine w_cons ?_ | refine w_tup ?_ | refine w_lst ?_
  | (apply w_len; (· wtm_at "nn")) | refine w_call ?_ | refine w_cb ?_ | refine w_isN ?_ | refine w_notN ?_ | refine w_fz ?_
  | refine w_add ?_ | refine w_sub ?_ | refine w_lt ?_ | refine w_le ?_ | refine w_gt ?_ | refine w_ge ?_ | (apply w_mod; (· wtm_at "nn")) | (apply w_div; (· wtm_at "nn"); (· wtm_at "nn"))
  | (apply w_eq; (· with_unfolding_all rfl)) | (apply w_ne; (· with_unfolding_all rfl))
  | (apply w_ixT; (· with_unfolding_all rfl)) | (apply w_ixL; (· wtm_at "gl"); (· with_unfolding_all rfl))
  | refine w_lenT ?_ | (apply w_lenL; (· wtm_at "gl")) | refine w_min2 ?_ | refine w_max2 ?_ | refine w_intB ?_ | (apply w_tupleL; (· wtm_at "gl"))
  | refine w_bm ?_ | refine w_bm0 ?_ | (apply w_ty; (· wtm_at "gl"))
  | (apply w_setL; (· wtm_at "lk"); (· with_unfolding_all rfl)) | (apply w_append; (· wtm_at "lk"); (· wtm_at "nn")) | (apply w_extend; (· wtm_at "lk"); (· wtm_at "gl"); (· wtm_at "nn"))
  | refine w_hcons ?_ | refine w_hnil ?_ | refine w_hname ?_ | (apply w_htup; (· with_unfolding_all rfl)) | (apply w_exT; (· with_unfolding_all rfl))
  | refine w_lcR1 ?_ | refine w_lcL ?_ | refine w_lcT ?_ | refine w_forR1 ?_ | refine w_forR2 ?_ | refine w_forL ?_ | refine w_forT ?_ | refine w_yes ?_ | refine w_cnm ?_ | (apply w_ctp; (· with_unfolding_all rfl))
  | (apply w_exL; (· wtm_at "gl")) | refine w_exTu ?_ | (apply w_exI; (· wtm_at "nn")) | (apply w_exI2; (· wtm_at "nn")) | refine w_exII ?_
  | refine w_lcK ?_ | refine w_fld ?_ | refine w_fldS ?_ | refine w_meth ?_ | refine w_make ?_ | (apply w_fldE; (· wtm_at "lk"); (· with_unfolding_all rfl)) | (apply w_fldSE; (· wtm_at "lk"); (· first | exact insF_lt | (with_unfolding_all exact Nat.le_of_ble_eq_true rfl) | wtm_at "nn")) | (apply w_lenD; (· wtm_at "lk"))
  | refine w_disp ?_ | refine w_pnil ?_ | refine w_pcons ?_ | (apply w_dispE; (· wtm_at "lk"); (· with_unfolding_all rfl); (· wtm_at "nn"))
  | refine w_dget ?_ | refine w_din ?_ | refine w_dget1 ?_ | refine w_dput ?_ | refine w_dpop1 ?_ | refine w_lenSet ?_ | refine w_listRng ?_ | refine w_notInRng ?_
  | (apply w_inK; (· wtm_at "dk"); (· with_unfolding_all rfl)) | (apply w_inT; (· wtm_at "dk"); (· with_unfolding_all exact keyT_lit))
  | (apply w_lkK; (· wtm_at "dk"); (· with_unfolding_all rfl); (· first | exact lv_web | exact lv_age | exact lv_room | exact lv_spots | exact lv_known | exact lv_time)) | (apply w_isK; (· wtm_at "dk")) | (apply w_isT; (· wtm_at "dk"))
  | (apply w_putK; (· wtm_at "lk"); (· with_unfolding_all rfl); (· wtm_at "nn")) | (apply w_putT; (· wtm_at "lk"); (· with_unfolding_all exact keyT_lit); (· wtm_at "nn")))
local macro_rules | `(tactic| wtm_at "bb") => `(tactic| (simp only [isN, Bool.not_true, Bool.not_false, Bool.or_true, Bool.true_or, Bool.or_false, Bool.false_or, Bool.xor_true, Bool.xor_false]; done))
local macro_rules | `(tactic| wtm_at "kt") => `(tactic| with_reducible first | exact kb_tu_tu | exact kb_tu_li | exact kb_tu_bo | exact kb_tu_st | exact kb_tu_in | exact kb_li_tu | exact kb_li_li | exact kb_li_bo | exact kb_li_st | exact kb_li_in | exact kb_No_tu | exact kb_No_li | exact kb_No_bo | exact kb_No_st | exact kb_No_in | exact kb_bo_tu | exact kb_bo_li | exact kb_bo_bo | exact kb_bo_st | exact kb_bo_in | exact kb_in_tu | exact kb_in_li | exact kb_in_bo | exact kb_in_st | exact kb_in_in | exact kb_st_tu | exact kb_st_li | exact kb_st_bo | exact kb_st_st | exact kb_st_in)
local macro_rules | `(tactic| wtm_at "ty") => `(tactic| first | assumption | exact ty_ref (by wtm_at "lk") | (with_unfolding_all exact rfl))
local macro_rules | `(tactic| wtm_at "x") => `(tactic| with_reducible first
  | (apply w_taken; (· wtm_at "lk"); (· wtm_at "nn"); (· wtm_at "nn")) | (apply w_eqD; (· wtm_at "vl"); (· wtm_at "vl"); (· wtm_at "pl"); (· wtm_at "pl")) | (apply w_neD; (· wtm_at "vl"); (· wtm_at "vl"); (· wtm_at "pl"); (· wtm_at "pl"))
  | (apply vR_row; (· assumption)) | (refine vR_frz (by assumption) ?_) | refine frz_let ?_ | refine w_isi ?_ | refine w_isi2 ?_ | (apply w_isiE; (· wtm_at "ty"); (· wtm_at "kt")) | (apply w_isiE2; (· wtm_at "ty"); (· wtm_at "kt"); (· wtm_at "kt"))
  | refine w_iteT rfl ?_ | refine w_iteF rfl ?_ | (apply w_iteT; (· wtm_at "bb")) | (apply w_iteF; (· wtm_at "bb")))
local macro_rules | `(tactic| wtm_at "w") => `(tactic| repeat (first | wtm_at "1" | wtm_at "x"))
theorem fl_opt {th : Option Int} : flD (optD th) = true := by cases th <;> rfl
end Dg
namespace Dg
open PySem PySem.Spec L2
local macro_rules | `(tactic| wtm_at "ne") => `(tactic| first | assumption | (apply Ne.symm; assumption) | (grind [ud, er]))
local macro_rules | `(tactic| wtm_at "lk") => `(tactic| first | (with_reducible assumption) | (with_reducible exact ud_same) | ((with_reducible refine (ud_ne (by wtm_at "ne")).trans ?_); wtm_at "lk"))
local macro_rules | `(tactic| wtm_at "gl") => `(tactic| first | (with_reducible assumption) | (with_reducible exact lst_ref (by wtm_at "lk")) | (with_reducible exact lstOf_new (by assumption) (by assumption)) | (with_unfolding_all exact rfl))
local macro_rules | `(tactic| wtm_at "vl") => `(tactic| first | (with_reducible exact val_ref (by wtm_at "lk")) | (with_unfolding_all exact rfl))
local macro_rules | `(tactic| wtm_at "dk") => `(tactic| with_reducible first | exact dK_own (by wtm_at "lk") | exact dK_lk (by wtm_at "lk") | exact dT_own (by wtm_at "lk"))
local macro_rules | `(tactic| wtm_at "pl") => `(tactic| with_unfolding_all first | exact rfl | exact all_int _ | exact all_P2 _ | assumption)
local macro_rules | `(tactic| wtm_at "nn") => `(tactic| first | omega | decide | (simp only [List.length_cons, List.length_nil, List.length_map, List.length_append]; omega) | grind)
local macro_rules | `(tactic| wtm_at "st") => `(tactic| (simp only [stD, List.map_cons, List.map_nil, List.length_cons, List.length_nil, List.replicate, Nat.reduceAdd, Nat.reduceSub, List.cons_append, List.nil_append]))
local macro_rules | `(tactic| wtm_at "1") => `(tactic| with_reducible first
  | refine w_seq ?_ | refine w_asgN ?_ | refine w_asgS ?_ | refine w_asgT ?_ | refine w_ret ?_ | refine w_drop ?_ | refine w_ifS ?_ | refine w_test ?_ | refine w_next ?_
  | refine w_nx ?_ | refine w_nx0 ?_ | refine w_rt ?_ | refine w_bk ?_ | refine w_ct ?_
  | refine w_bl2 ?_ | refine w_and ?_ | refine w_or ?_ | refine w_not ?_ | refine w_andV ?_ | refine w_orV ?_ | refine w_notV ?_ | refine w_if ?_
  | (apply w_var; (· with_unfolding_all rfl)) | refine w_c ?_ | refine w_op ?_ | refine w_chain ?_ | refine w_nil ?_ | refine w_cons ?_ | refine w_tup ?_ | refine w_lst ?_
  | (apply w_len; (· wtm_at "nn")) | refine w_call ?_ | refine w_cb ?_ | refine w_isN ?_ | refine w_notN ?_ | refine w_fz ?_
  | refine w_add ?_ | refine w_sub ?_ | refine w_lt ?_ | refine w_le ?_ | refine w_gt ?_ | refine w_ge ?_ | (apply w_mod; (· wtm_at "nn")) | (apply w_div; (· wtm_at "nn"); (· wtm_at "nn"))
  | (apply w_eq; (· with_unfolding_all rfl)) | (apply w_ne; (· with_unfolding_all rfl))
  | (apply w_ixT; (· with_unfolding_all rfl)) | (apply w_ixL; (· wtm_at "gl"); (· with_unfolding_all rfl))
  | refine w_lenT ?_ | (apply w_lenL; (· wtm_at "gl")) | refine w_min2 ?_ | refine w_max2 ?_ | refine w_intB ?_ | (apply w_tupleL; (· wtm_at "gl"))
  | refine w_bm ?_ | refine w_bm0 ?_ | (apply w_ty; (· wtm_at "gl"))
  | (apply w_setL; (· wtm_at "lk"); (· with_unfolding_all rfl)) | (apply w_append; (· wtm_at "lk"); (· wtm_at "nn")) | (apply w_extend; (· wtm_at "lk"); (· wtm_at "gl"); (· wtm_at "nn"))
  | refine w_hcons ?_ | refine w_hnil ?_ | refine w_hname ?_ | (apply w_htup; (· with_unfolding_all rfl)) | (apply w_exT; (· with_unfolding_all rfl))
  | refine w_lcR1 ?_ | refine w_lcL ?_ | refine w_lcT ?_ | refine w_forR1 ?_ | refine w_forR2 ?_ | refine w_forL ?_ | refine w_forT ?_ | refine w_yes ?_ | refine w_cnm ?_ | (apply w_ctp; (· with_unfolding_all rfl))
  | (apply w_exL; (· wtm_at "gl")) | refine w_exTu ?_ | (apply w_exI; (· wtm_at "nn")) | (apply w_exI2; (· wtm_at "nn")) | refine w_exII ?_
  | refine w_lcK ?_ | refine w_fld ?_ | refine w_fldS ?_ | refine w_meth ?_ | refine w_make ?_ | (apply w_fldE; (· wtm_at "lk"); (· with_unfolding_all rfl)) | (apply w_fldSE; (· wtm_at "lk"); (· first | exact insF_lt | (with_unfolding_all exact Nat.le_of_ble_eq_true rfl) | wtm_at "nn")) | (apply w_lenD; (· wtm_at "lk"))
  | refine w_disp ?_ | refine w_pnil ?_ | refine w_pcons ?_ | (apply w_dispE; (· wtm_at "lk"); (· with_unfolding_all rfl); (· wtm_at "nn"))
  | refine w_dget ?_ | refine w_din ?_ | refine w_dget1 ?_ | refine w_dput ?_ | refine w_dpop1 ?_ | refine w_lenSet ?_ | refine w_listRng ?_ | refine w_notInRng ?_
  | (apply w_inK; (· wtm_at "dk"); (· with_unfolding_all rfl)) | (apply w_inT; (· wtm_at "dk"); (· with_unfolding_all exact keyT_lit))
  | (apply w_lkK; (· wtm_at "dk"); (· with_unfolding_all rfl); (· first | exact lv_web | exact lv_age | exact lv_room | exact lv_spots | exact lv_known | exact lv_time)) | (apply w_isK; (· wtm_at "dk")) | (apply w_isT; (· wtm_at "dk"))
  | (apply w_putK; (· wtm_at "lk"); (· with_unfolding_all rfl); (· wtm_at "nn")) | (apply w_putT; (· wtm_at "lk"); (· with_unfolding_all exact keyT_lit); (· wtm_at "nn")))
local macro_rules | `(tactic| wtm_at "bb") => `(tactic| (simp only [isN, Bool.not_true, Bool.not_false, Bool.or_true, Bool.true_or, Bool.or_false, Bool.false_or, Bool.xor_true, Bool.xor_false]; done))
local macro_rules | `(tactic| wtm_at "kt") => `(tactic| with_reducible first | exact kb_tu_tu | exact kb_tu_li | exact kb_tu_bo | exact kb_tu_st | exact kb_tu_in | exact kb_li_tu | exact kb_li_li | exact kb_li_bo | exact kb_li_st | exact kb_li_in | exact kb_No_tu | exact kb_No_li | exact kb_No_bo | exact kb_No_st | exact kb_No_in | exact kb_bo_tu | exact kb_bo_li | exact kb_bo_bo | exact kb_bo_st | exact kb_bo_in | exact kb_in_tu | exact kb_in_li | exact kb_in_bo | exact kb_in_st | exact kb_in_in | exact kb_st_tu | exact kb_st_li | exact kb_st_bo | exact kb_st_st | exact kb_st_in)
local macro_rules | `(tactic| wtm_at "ty") => `(tactic| first | assumption | exact ty_ref (by wtm_at "lk") | (with_unfolding_all exact rfl))
local macro_rules | `(tactic| wtm_at "x") => `(tactic| with_reducible first
  | (apply w_taken; (· wtm_at "lk"); (· wtm_at "nn"); (· wtm_at "nn")) | (apply w_eqD; (· wtm_at "vl"); (· wtm_at "vl"); (· wtm_at "pl"); (· wtm_at "pl")) | (apply w_neD; (· wtm_at "vl"); (· wtm_at "vl"); (· wtm_at "pl"); (· wtm_at "pl"))
  | (apply vR_row; (· assumption)) | (refine vR_frz (by assumption) ?_) | refine frz_let ?_ | refine w_isi ?_ | refine w_isi2 ?_ | (apply w_isiE; (· wtm_at "ty"); (· wtm_at "kt")) | (apply w_isiE2; (· wtm_at "ty"); (· wtm_at "kt"); (· wtm_at "kt"))
  | refine w_iteT rfl ?_ | refine w_iteF rfl ?_ | (apply w_iteT; (· wtm_at "bb")) | (apply w_iteF; (· wtm_at "bb")))
local macro_rules | `(tactic| wtm_at "w") => `(tactic| repeat (first | wtm_at "1" | wtm_at "x"))
theorem pick4 {a b c d i : Int} (h0 : 0 ≤ i) (h4 : i < 4) : ∃ v, atI [D.int a, D.int b, D.int c, D.int d] i = some (.int v) ∧ (v = a ∨ v = b ∨ v = c ∨ v = d) := by
  have : i = 0 ∨ i = 1 ∨ i = 2 ∨ i = 3 := by omega
  rcases this with rfl | rfl | rfl | rfl
  · exact ⟨a, rfl, .inl rfl⟩
  · exact ⟨b, rfl, .inr (.inl rfl)⟩
  · exact ⟨c, rfl, .inr (.inr (.inl rfl))⟩
  · exact ⟨d, rfl, .inr (.inr (.inr rfl))⟩
theorem other_host {h k n : Int} (h0 : 0 ≤ h) (h1 : h < n) (k0 : 0 ≤ k) (k1 : k < n - 1) : 0 ≤ (h + 1 + k) % n ∧ (h + 1 + k) % n < n ∧ (h + 1 + k) % n ≠ h := by
  have hn : 0 < n := by omega
  refine ⟨Int.emod_nonneg _ (by omega), Int.emod_lt_of_pos _ hn, ?_⟩
  by_cases c : h + 1 + k < n
  · rw [Int.emod_eq_of_lt (by omega) c]
    omega
  · have e : (h + 1 + k) % n = h + 1 + k - n := by
      rw [← Int.sub_emod_right, Int.emod_eq_of_lt (by omega) (by omega)]
    omega
theorem r_L_deed {K : PySem.W.Frag} : Rd 6 (b_L_deed K) (sp_L_deed K) := by
  rintro _ G Q ⟨r, l, st, rfl, hr, ho, hok, q⟩
  have ga := ho.ga
  have gs := ho.gs
  have h1 := hok.h1
  have h8 := hok.h8
  have t0 := hok.t0
  have t1 := hok.t1000
  wtm_at "st"
  refine vN0 ?_
  unfold b_L_deed
  obtain ⟨bi, hbi⟩ : ∃ x : DS, x = (dSeq (dAsg (dCall (sp_L_taken K) (dCons (dVar 0) (dCons (dVar 2) dNil))) (hName 4))
    (dSeq (dAsg (dCall (sp_L_places K) (dCons (dDGet (dVar 1) (dC (.str "web"))) dNil)) (hName 5))
    (dSeq (dIfS (dTest (dOp eEq (dCall (sp_L_taken K) (dCons (dVar 0) (dCons (dC (.int 5)) dNil))) (dC (.int 4)))) (dRet (dTup (dCons (dC (.str "move")) (dCons (dVar 3) (dCons (dVar 4) (dCons (dOp eIxL (dVar 5) (dCall (sp_L_taken K) (dCons (dVar 0) (dCons (dCB cLen (dCons (dVar 5) dNil)) dNil)))) dNil)))))) dNext)
    (dSeq (dIfS (dOr (dTest (dOp eEq (dVar 2) (dC (.int 1)))) (dTest (dOp eEq (dCall (sp_L_taken K) (dCons (dVar 0) (dCons (dC (.int 6)) dNil))) (dC (.int 5))))) (dRet (dTup (dCons (dC (.str "send")) (dCons (dVar 3) (dCons (dVar 4) (dCons (dC .non) dNil)))))) dNext)
    (dRet (dTup (dCons (dC (.str "send")) (dCons (dVar 3) (dCons (dVar 4) (dCons (dOp eMod (dOp eAdd (dOp eAdd (dVar 4) (dC (.int 1))) (dCall (sp_L_taken K) (dCons (dVar 0) (dCons (dOp eSub (dVar 2) (dC (.int 1))) dNil)))) (dVar 2)) dNil)))))))))) := ⟨_, rfl⟩
  rw [← hbi]
  have fin : ∀ t : Int, st.now ≤ t → t ≤ 1000 → bi { nx := fun x G' => vRt Q D.non G', rt := vRt Q } [some (.ref r), some (.ref l.a), some (.int st.spots.length), some (.int t), none, none] G := by
    intro t ht0 ht1
    rw [hbi]
    wtm_at "w"
    intro h hh0 hh1
    wtm_at "w"
    refine w_L_places hok.web fun p hp => ?_
    have hmem := fun p => places_mem (n := st.n) (ls := st.ls) (p := p) (by have := hok.web.n1; omega)
    have hpn := places_ne hok.web
    have hpl := places_len (n := st.n) (ls := st.ls) hok.web.n6
    generalize placesF st.n st.ls = pls at *
    have hrp : r ≠ p := fun z => by rw [← z, hr] at hp; cases hp
    wtm_at "w"
    intro k hk0 hk1
    wtm_at "w"
    refine w_ite (fun c => ?_) (fun c => ?_)
    · wtm_at "w"
      rw [List.length_map]
      intro k2 hk20 hk21
      obtain ⟨pl, hpl1, hpl2⟩ := pls_get hk20 hk21
      refine w_ixL (lst_ref ud_same) hpl2 ?_
      wtm_at "w"
      exact vR_sub (sub_new hp sub_refl) (q (.move t h pl) ⟨ht0, ht1, hh0, hh1, (hmem pl).mp hpl1⟩)
    · wtm_at "w"
      refine w_ite (fun c2 => ?_) (fun c2 => ?_)
      · wtm_at "w"
        exact vR_sub (sub_new hp sub_refl) (q (.send t h none) ⟨ht0, ht1, hh0, hh1, by simp⟩)
      · have c2 : ¬ (st.spots.length : Int) = 1 := of_decide_eq_false c2
        wtm_at "w"
        intro k3 hk30 hk31
        wtm_at "w"
        refine w_ite (fun c3 => ?_) (fun c3 => ?_)
        · wtm_at "w"
          exact vR_sub (sub_new hp sub_refl) (q (.send t h none) ⟨ht0, ht1, hh0, hh1, by simp⟩)
        · wtm_at "w"
          intro k4 hk40 hk41
          wtm_at "w"
          exact vR_sub (sub_new hp sub_refl) (q (.send t h (some ((h + 1 + k4) % (st.spots.length : Int)))) ⟨ht0, ht1, hh0, hh1, fun z hz => by cases hz; exact other_host hh0 hh1 hk40 hk41⟩)
  wtm_at "w"
  rw [List.length_map]
  intro k1 hk10 hk11
  wtm_at "w"
  intro k2 hk20 hk21
  wtm_at "w"
  intro k3 hk30 hk31
  obtain ⟨v, hv, hv2⟩ := pick4 (a := 0) (b := 1) (c := k1) (d := k2) hk30 hk31
  refine w_ixL rfl hv ?_
  wtm_at "w"
  intro k4 hk40 hk41
  wtm_at "w"
  refine w_ite (fun c => ?_) (fun c => ?_)
  · wtm_at "w"
    intro k5 hk50 hk51
    wtm_at "w"
    exact fin _ (by omega) (by omega)
  · wtm_at "w"
    refine fin _ ?_ ?_
    · omega
    · omega
theorem deed_s {t h : Int} {to : Option Int} : deedD (.send t h to) = .tup [.str "send", .int t, .int h, optD to] := rfl
theorem deed_m {t h : Int} {p : Int × Int} : deedD (.move t h p) = .tup [.str "move", .int t, .int h, P2 p] := rfl
theorem r_L_does {K : PySem.W.Frag} : Rd 2 (b_L_does K) (sp_L_does K) := by
  rintro _ G Q ⟨a, st, dd, rfl, hg, hok, hdd, q⟩
  wtm_at "st"
  refine vN0 ?_
  unfold b_L_does
  cases dd with
  | send t h to =>
    rw [deed_s]
    wtm_at "w"
    refine w_methE (netV_ins (st := st) (.inl hg) fun _ => rfl) ?_
    wtm_at "w"
    exact ⟨a, st, t, h, to, rfl, hg, hok, hdd, fun p hp c hc => by subst hc; exact vR0 (q p hp)⟩
  | move t h p =>
    rw [deed_m]
    obtain ⟨d1, d2, d3, d4, d5⟩ := hdd
    wtm_at "w"
    refine w_methE (netV_ins (st := st) (.inl hg) fun _ => rfl) ?_
    wtm_at "w"
    exact ⟨a, st, t, h, p, rfl, hg, hok, d1, d2, d3, d4, d5, vR0 q⟩
end Dg
namespace Dg
open PySem PySem.Spec L2
local macro_rules | `(tactic| wtm_at "ne") => `(tactic| first | assumption | (apply Ne.symm; assumption) | (grind [ud, er]))
local macro_rules | `(tactic| wtm_at "lk") => `(tactic| first | (with_reducible assumption) | (with_reducible exact ud_same) | ((with_reducible refine (ud_ne (by wtm_at "ne")).trans ?_); wtm_at "lk"))
local macro_rules | `(tactic| wtm_at "gl") => `(tactic| first | (with_reducible assumption) | (with_reducible exact lst_ref (by wtm_at "lk")) | (with_reducible exact lstOf_new (by assumption) (by assumption)) | (with_unfolding_all exact rfl))
local macro_rules | `(tactic| wtm_at "vl") => `(tactic| first | (with_reducible exact val_ref (by wtm_at "lk")) | (with_unfolding_all exact rfl))
local macro_rules | `(tactic| wtm_at "dk") => `(tactic| with_reducible first | exact dK_own (by wtm_at "lk") | exact dK_lk (by wtm_at "lk") | exact dT_own (by wtm_at "lk"))
local macro_rules | `(tactic| wtm_at "pl") => `(tactic| with_unfolding_all first | exact rfl | exact all_int _ | exact all_P2 _ | assumption)
local macro_rules | `(tactic| wtm_at "nn") => `(tactic| first | omega | decide | (simp only [List.length_cons, List.length_nil, List.length_map, List.length_append]; omega) | grind)
local macro_rules | `(tactic| wtm_at "st") => `(tactic| (simp only [stD, List.map_cons, List.map_nil, List.length_cons, List.length_nil, List.replicate, Nat.reduceAdd, Nat.reduceSub, List.cons_append, List.nil_append]))
local macro_rules | `(tactic| wtm_at "1") => `(tactic| with_reducible first
  | refine w_seq ?_ | refine w_asgN ?_ | refine w_asgS ?_ | refine w_asgT ?_ | refine w_ret ?_ | refine w_drop ?_ | refine w_ifS ?_ | refine w_test ?_ | refine w_next ?_
  | refine w_nx ?_ | refine w_nx0 ?_ | refine w_rt ?_ | refine w_bk ?_ | refine w_ct ?_
  | refine w_bl2 ?_ | refine w_and ?_ | refine w_or ?_ | refine w_not ?_ | refine w_andV ?_ | refine w_orV ?_ | refine w_notV ?_ | refine w_if ?_
  | (apply w_var; (· with_unfolding_all rfl)) | refine w_c ?_ | refine w_op ?_ | refine w_chain ?_ | refine w_nil ?_ | refine w_cons ?_ | refine w_tup ?_ | refine w_lst ?_
  | (apply w_len; (· wtm_at "nn")) | refine w_call ?_ | refine w_cb ?_ | refine w_isN ?_ | refine w_notN ?_ | refine w_fz ?_
  | refine w_add ?_ | refine w_sub ?_ | refine w_lt ?_ | refine w_le ?_ | refine w_gt ?_ | refine w_ge ?_ | (apply w_mod; (· wtm_at "nn")) | (apply w_div; (· wtm_at "nn"); (· wtm_at "nn"))
  | (apply w_eq; (· with_unfolding_all rfl)) | (apply w_ne; (· with_unfolding_all rfl))
  | (apply w_ixT; (· with_unfolding_all rfl)) | (apply w_ixL; (· wtm_at "gl"); (· with_unfolding_all rfl))
  | refine w_lenT ?_ | (apply w_lenL; (· wtm_at "gl")) | refine w_min2 ?_ | refine w_max2 ?_ | refine w_intB ?_ | (apply w_tupleL; (· wtm_at "gl"))
  | refine w_bm ?_ | refine w_bm0 ?_ | (apply w_ty; (· wtm_at "gl"))
  | (apply w_setL; (· wtm_at "lk"); (· with_unfolding_all rfl)) | (apply w_append; (· wtm_at "lk"); (· wtm_at "nn")) | (apply w_extend; (· wtm_at "lk"); (· wtm_at "gl"); (· wtm_at "nn"))
  | refine w_hcons ?_ | refine w_hnil ?_ | refine w_hname ?_ | (apply w_htup; (· with_unfolding_all rfl)) | (apply w_exT; (· with_unfolding_all rfl))
  | refine w_lcR1 ?_ | refine w_lcL ?_ | refine w_lcT ?_ | refine w_forR1 ?_ | refine w_forR2 ?_ | refine w_forL ?_ | refine w_forT ?_ | refine w_yes ?_ | refine w_cnm ?_ | (apply w_ctp; (· with_unfolding_all rfl))
  | (apply w_exL; (· wtm_at "gl")) | refine w_exTu ?_ | (apply w_exI; (· wtm_at "nn")) | (apply w_exI2; (· wtm_at "nn")) | refine w_exII ?_
  | refine w_lcK ?_ | refine w_fld ?_ | refine w_fldS ?_ | refine w_meth ?_ | refine w_make ?_ | (apply w_fldE; (· wtm_at "lk"); (· with_unfolding_all rfl)) | (apply w_fldSE; (· wtm_at "lk"); (· first | exact insF_lt | (with_unfolding_all exact Nat.le_of_ble_eq_true rfl) | wtm_at "nn")) | (apply w_lenD; (· wtm_at "lk"))
  | refine w_disp ?_ | refine w_pnil ?_ | refine w_pcons ?_ | (apply w_dispE; (· wtm_at "lk"); (· with_unfolding_all rfl); (· wtm_at "nn"))
  | refine w_dget ?_ | refine w_din ?_ | refine w_dget1 ?_ | refine w_dput ?_ | refine w_dpop1 ?_ | refine w_lenSet ?_ | refine w_listRng ?_ | refine w_notInRng ?_
  | (apply w_inK; (· wtm_at "dk"); (· with_unfolding_all rfl)) | (apply w_inT; (· wtm_at "dk"); (· with_unfolding_all exact keyT_lit))
  | (apply w_lkK; (· wtm_at "dk"); (· with_unfolding_all rfl); (· first | exact lv_web | exact lv_age | exact lv_room | exact lv_spots | exact lv_known | exact lv_time)) | (apply w_isK; (· wtm_at "dk")) | (apply w_isT; (· wtm_at "dk"))
  | (apply w_putK; (· wtm_at "lk"); (· with_unfolding_all rfl); (· wtm_at "nn")) | (apply w_putT; (· wtm_at "lk"); (· with_unfolding_all exact keyT_lit); (· wtm_at "nn")))
local macro_rules | `(tactic| wtm_at "bb") => `(tactic| (simp only [isN, Bool.not_true, Bool.not_false, Bool.or_true, Bool.true_or, Bool.or_false, Bool.false_or, Bool.xor_true, Bool.xor_false]; done))
local macro_rules | `(tactic| wtm_at "kt") => `(tactic| with_reducible first | exact kb_tu_tu | exact kb_tu_li | exact kb_tu_bo | exact kb_tu_st | exact kb_tu_in | exact kb_li_tu | exact kb_li_li | exact kb_li_bo | exact kb_li_st | exact kb_li_in | exact kb_No_tu | exact kb_No_li | exact kb_No_bo | exact kb_No_st | exact kb_No_in | exact kb_bo_tu | exact kb_bo_li | exact kb_bo_bo | exact kb_bo_st | exact kb_bo_in | exact kb_in_tu | exact kb_in_li | exact kb_in_bo | exact kb_in_st | exact kb_in_in | exact kb_st_tu | exact kb_st_li | exact kb_st_bo | exact kb_st_st | exact kb_st_in)
local macro_rules | `(tactic| wtm_at "ty") => `(tactic| first | assumption | exact ty_ref (by wtm_at "lk") | (with_unfolding_all exact rfl))
local macro_rules | `(tactic| wtm_at "x") => `(tactic| with_reducible first
  | (apply w_taken; (· wtm_at "lk"); (· wtm_at "nn"); (· wtm_at "nn")) | (apply w_eqD; (· wtm_at "vl"); (· wtm_at "vl"); (· wtm_at "pl"); (· wtm_at "pl")) | (apply w_neD; (· wtm_at "vl"); (· wtm_at "vl"); (· wtm_at "pl"); (· wtm_at "pl"))
  | (apply vR_row; (· assumption)) | (refine vR_frz (by assumption) ?_) | refine frz_let ?_ | refine w_isi ?_ | refine w_isi2 ?_ | (apply w_isiE; (· wtm_at "ty"); (· wtm_at "kt")) | (apply w_isiE2; (· wtm_at "ty"); (· wtm_at "kt"); (· wtm_at "kt"))
  | refine w_iteT rfl ?_ | refine w_iteF rfl ?_ | (apply w_iteT; (· wtm_at "bb")) | (apply w_iteF; (· wtm_at "bb")))
local macro_rules | `(tactic| wtm_at "w") => `(tactic| repeat (first | wtm_at "1" | wtm_at "x"))
end Dg
namespace Dg
open PySem PySem.Spec L2
local macro_rules | `(tactic| wtm_at "ne") => `(tactic| first | assumption | (apply Ne.symm; assumption) | (grind [ud, er]))
local macro_rules | `(tactic| wtm_at "lk") => `(tactic| first | (with_reducible assumption) | (with_reducible exact ud_same) | ((with_reducible refine (ud_ne (by wtm_at "ne")).trans ?_); wtm_at "lk"))
local macro_rules | `(tactic| wtm_at "gl") => `(tactic| first | (with_reducible assumption) | (with_reducible exact lst_ref (by wtm_at "lk")) | (with_reducible exact lstOf_new (by assumption) (by assumption)) | (with_unfolding_all exact rfl))
local macro_rules | `(tactic| wtm_at "vl") => `(tactic| first | (with_reducible exact val_ref (by wtm_at "lk")) | (with_unfolding_all exact rfl))
local macro_rules | `(tactic| wtm_at "dk") => `(tactic| with_reducible first | exact dK_own (by wtm_at "lk") | exact dK_lk (by wtm_at "lk") | exact dT_own (by wtm_at "lk"))
local macro_rules | `(tactic| wtm_at "pl") => `(tactic| with_unfolding_all first | exact rfl | exact all_int _ | exact all_P2 _ | assumption)
local macro_rules | `(tactic| wtm_at "nn") => `(tactic| first | omega | decide | (simp only [List.length_cons, List.length_nil, List.length_map, List.length_append]; omega) | grind)
local macro_rules | `(tactic| wtm_at "st") => `(tactic| (simp only [stD, List.map_cons, List.map_nil, List.length_cons, List.length_nil, List.replicate, Nat.reduceAdd, Nat.reduceSub, List.cons_append, List.nil_append]))
local macro_rules | `(tactic| wtm_at "1") => `(tactic| with_reducible first
  | refine w_seq ?_ | refine w_asgN ?_ | refine w_asgS ?_ | refine w_asgT ?_ | refine w_ret ?_ | refine w_drop ?_ | refine w_ifS ?_ | refine w_test ?_ | refine w_next ?_
  | refine w_nx ?_ | refine w_nx0 ?_ | refine w_rt ?_ | refine w_bk ?_ | refine w_ct ?_
  | refine w_bl2 ?_ | refine w_and ?_ | refine w_or ?_ | refine w_not ?_ | refine w_andV ?_ | refine w_orV ?_ | refine w_notV ?_ | refine w_if ?_
  | (apply w_var; (· with_unfolding_all rfl)) | refine w_c ?_ | refine w_op ?_ | refine w_chain ?_ | refine w_nil ?_ | refine w_cons ?_ | refine w_tup ?_ | refine w_lst ?_
  | (apply w_len; (· wtm_at "nn")) | refine w_call ?_ | refine w_cb ?_ | refine w_isN ?_ | refine w_notN ?_ | refine w_fz ?_
  | refine w_add ?_ | refine w_sub ?_ | refine w_lt ?_ | refine w_le ?_ | refine w_gt ?_ | refine w_ge ?_ | (apply w_mod; (· wtm_at "nn")) | (apply w_div; (· wtm_at "nn"); (· wtm_at "nn"))
  | (apply w_eq; (· with_unfolding_all rfl)) | (apply w_ne; (· with_unfolding_all rfl))
  | (apply w_ixT; (· with_unfolding_all rfl)) | (apply w_ixL; (· wtm_at "gl"); (· with_unfolding_all rfl))
  | refine w_lenT ?_ | (apply w_lenL; (· wtm_at "gl")) | refine w_min2 ?_ | refine w_max2 ?_ | refine w_intB ?_ | (apply w_tupleL; (· wtm_at "gl"))
  | refine w_bm ?_ | refine w_bm0 ?_ | (apply w_ty; (· wtm_at "gl"))
  | (apply w_setL; (· wtm_at "lk"); (· with_unfolding_all rfl)) | (apply w_append; (· wtm_at "lk"); (· wtm_at "nn")) | (apply w_extend; (· wtm_at "lk"); (· wtm_at "gl"); (· wtm_at "nn"))
  | refine w_hcons ?_ | refine w_hnil ?_ | refine w_hname ?_ | (apply w_htup; (· with_unfolding_all rfl)) | (apply w_exT; (· with_unfolding_all rfl))
  | refine w_lcR1 ?_ | refine w_lcL ?_ | refine w_lcT ?_ | refine w_forR1 ?_ | refine w_forR2 ?_ | refine w_forL ?_ | refine w_forT ?_ | refine w_yes ?_ | refine w_cnm ?_ | (apply w_ctp; (· with_unfolding_all rfl))
  | (apply w_exL; (· wtm_at "gl")) | refine w_exTu ?_ | (apply w_exI; (· wtm_at "nn")) | (apply w_exI2; (· wtm_at "nn")) | refine w_exII ?_
  | refine w_lcK ?_ | refine w_fld ?_ | refine w_fldS ?_ | refine w_meth ?_ | refine w_make ?_ | (apply w_fldE; (· wtm_at "lk"); (· with_unfolding_all rfl)) | (apply w_fldSE; (· wtm_at "lk"); (· first | exact insF_lt | (with_unfolding_all exact Nat.le_of_ble_eq_true rfl) | wtm_at "nn")) | (apply w_lenD; (· wtm_at "lk"))
  | refine w_disp ?_ | refine w_pnil ?_ | refine w_pcons ?_ | (apply w_dispE; (· wtm_at "lk"); (· with_unfolding_all rfl); (· wtm_at "nn"))
  | refine w_dget ?_ | refine w_din ?_ | refine w_dget1 ?_ | refine w_dput ?_ | refine w_dpop1 ?_ | refine w_lenSet ?_ | refine w_listRng ?_ | refine w_notInRng ?_
  | (apply w_inK; (· wtm_at "dk"); (· with_unfolding_all rfl)) | (apply w_inT; (· wtm_at "dk"); (· with_unfolding_all exact keyT_lit))
  | (apply w_lkK; (· wtm_at "dk"); (· with_unfolding_all rfl); (· first | exact lv_web | exact lv_age | exact lv_room | exact lv_spots | exact lv_known | exact lv_time)) | (apply w_isK; (· wtm_at "dk")) | (apply w_isT; (· wtm_at "dk"))
  | (apply w_putK; (· wtm_at "lk"); (· with_unfolding_all rfl); (· wtm_at "nn")) | (apply w_putT; (· wtm_at "lk"); (· with_unfolding_all exact keyT_lit); (· wtm_at "nn")))
local macro_rules | `(tactic| wtm_at "bb") => `(tactic| (simp only [isN, Bool.not_true, Bool.not_false, Bool.or_true, Bool.true_or, Bool.or_false, Bool.false_or, Bool.xor_true, Bool.xor_false]; done))
local macro_rules | `(tactic| wtm_at "kt") => `(tactic| with_reducible first | exact kb_tu_tu | exact kb_tu_li | exact kb_tu_bo | exact kb_tu_st | exact kb_tu_in | exact kb_li_tu | exact kb_li_li | exact kb_li_bo | exact kb_li_st | exact kb_li_in | exact kb_No_tu | exact kb_No_li | exact kb_No_bo | exact kb_No_st | exact kb_No_in | exact kb_bo_tu | exact kb_bo_li | exact kb_bo_bo | exact kb_bo_st | exact kb_bo_in | exact kb_in_tu | exact kb_in_li | exact kb_in_bo | exact kb_in_st | exact kb_in_in | exact kb_st_tu | exact kb_st_li | exact kb_st_bo | exact kb_st_st | exact kb_st_in)
local macro_rules | `(tactic| wtm_at "ty") => `(tactic| first | assumption | exact ty_ref (by wtm_at "lk") | (with_unfolding_all exact rfl))
local macro_rules | `(tactic| wtm_at "x") => `(tactic| with_reducible first
  | (apply w_taken; (· wtm_at "lk"); (· wtm_at "nn"); (· wtm_at "nn")) | (apply w_eqD; (· wtm_at "vl"); (· wtm_at "vl"); (· wtm_at "pl"); (· wtm_at "pl")) | (apply w_neD; (· wtm_at "vl"); (· wtm_at "vl"); (· wtm_at "pl"); (· wtm_at "pl"))
  | (apply vR_row; (· assumption)) | (refine vR_frz (by assumption) ?_) | refine frz_let ?_ | refine w_isi ?_ | refine w_isi2 ?_ | (apply w_isiE; (· wtm_at "ty"); (· wtm_at "kt")) | (apply w_isiE2; (· wtm_at "ty"); (· wtm_at "kt"); (· wtm_at "kt"))
  | refine w_iteT rfl ?_ | refine w_iteF rfl ?_ | (apply w_iteT; (· wtm_at "bb")) | (apply w_iteF; (· wtm_at "bb")))
local macro_rules | `(tactic| wtm_at "w") => `(tactic| repeat (first | wtm_at "1" | wtm_at "x"))
theorem w_N_places {K : PySem.W.Frag} {a : Addr} {st : Mg.NS} {G : Gp} {Q : DK} (hv : NetV K G a st) (q : ∀ p, G p = none → Q (.ref p) (ud G p (.sm (.lst (st.spots.map P2))))) : sp_N_places K [.ref a] G Q := ⟨a, st, rfl, hv, q⟩
theorem w_L_deed {K : PySem.W.Frag} {r : Addr} {l : La} {st : Mg.NS} {G : Gp} {Q : DK} (hr : G r = some (gRow K)) (ho : LawO G l st) (hok : NOk st) (q : ∀ dd, DeedOk st dd → Q (deedD dd) G) : sp_L_deed K [.ref r, .ref l.a] G Q := ⟨r, l, st, rfl, hr, ho, hok, q⟩
theorem w_L_fresh {K : PySem.W.Frag} {r : Addr} {n : Int} {ls : List Mg.Lk} {G : Gp} {Q : DK} (hr : G r = some (gRow K)) (hw : WebOk n ls) (q : ∀ (l : La) (st : Mg.NS) (G' : Gp), LawO G' l st → NOk st → st.n = n → st.ls = ls → st.now = 0 → st.known = List.replicate n.toNat [] → (∀ b, l.no b → ∀ x, G b = some x → G' b = some x) → G l.a = none → G l.s = none → G l.k = none → Q (.ref l.a) G') : sp_L_fresh K [.ref r, webD n ls] G Q := ⟨r, n, ls, rfl, hr, hw, q⟩
theorem w_L_net {K : PySem.W.Frag} {l : La} {st : Mg.NS} {G : Gp} {Q : DK} (ho : LawO G l st) (hok : NOk st) (q : ∀ p, G p = none → Q (.ref p) (ud G p (gNet K (Mg.freshF st.n st.ls st.age st.room st.spots)))) : sp_L_net K [.ref l.a] G Q := ⟨l, st, rfl, ho, hok, q⟩
theorem fresh_eq {st : Mg.NS} (h0 : st.now = 0) (hk : st.known = List.replicate st.n.toNat []) : Mg.freshF st.n st.ls st.age st.room st.spots = st := by
  unfold Mg.freshF
  rw [← hk, ← h0]
theorem w_L_doesS {K : PySem.W.Frag} {a : Addr} {st : Mg.NS} {t h : Int} {to : Option Int} {G : Gp} {Q : DK} (hg : G a = some (gNet K st)) (hok : NOk st) (hl : LtOk st t h to) (q : ∀ p, G p = none → Q (ltrD (Mg.sendF st t h to) p) (ud (ud G a (gNet K (Mg.sendF st t h to).st)) p (.sm (.lst ((Mg.sendF st t h to).got.map D.int))))) : sp_L_does K [.ref a, deedD (.send t h to)] G Q := ⟨a, st, .send t h to, rfl, hg, hok, hl, q⟩
theorem w_L_doesM {K : PySem.W.Frag} {a : Addr} {st : Mg.NS} {t h : Int} {p : Int × Int} {G : Gp} {Q : DK} (hg : G a = some (gNet K st)) (hok : NOk st) (hl : DeedOk st (.move t h p)) (q : Q .non (ud G a (gNet K (Mg.moveF st t h p)))) : sp_L_does K [.ref a, deedD (.move t h p)] G Q := ⟨a, st, .move t h p, rfl, hg, hok, hl, q⟩
theorem w_L_web {K : PySem.W.Frag} {r : Addr} {R : Int} {G : Gp} {Q : DK} (hr : G r = some (gRow K)) (h0 : 0 ≤ R) (h6 : R ≤ 6) (q : ∀ n ls, WebOk n ls → (R = 0 → Forest ls) → Q (webD n ls) G) : sp_L_web K [.ref r, .int R] G Q := ⟨r, R, rfl, hr, h0, h6, q⟩
end Dg
namespace Mg
abbrev C2 := Int × Int
abbrev En := C2 → Option C2
structure EnOk (E : En) : Prop where
  sy : ∀ p q, E p = some q → E q = some p
  ne : ∀ p q, E p = some q → p.1 ≠ q.1
/-- a link other than the one at a door -/
def Stp (E : En) (p : C2) (u v : Int) : Prop := ∃ x y, E (u, x) = some (v, y) ∧ (u, x) ≠ p ∧ (v, y) ≠ p
/-- without any link its boxes aren't joined -/
def Acy (E : En) : Prop := ∀ p q, E p = some q → ¬ Rt (Stp E p) p.1 q.1
/-- what is come to from a box but by a door -/
def Reg (E : En) (c : C2) (v : Int) : Prop := Rt (Stp E c) c.1 v
/-- a link, both boxes not closed -/
def AdjE (E : En) (c : Option Int) (u v : Int) : Prop := (∃ x y, E (u, x) = some (v, y)) ∧ c ≠ some u ∧ c ≠ some v
abbrev Rc (E : En) (c : Option Int) (u v : Int) : Prop := Rt (AdjE E c) u v
section
variable {E : En}
theorem AdjE.symm (h : EnOk E) {c : Option Int} (u v : Int) : AdjE E c u v → AdjE E c v u := by
  rintro ⟨⟨x, y, e⟩, h1, h2⟩
  exact ⟨⟨y, x, h.sy _ _ e⟩, h2, h1⟩
theorem Stp.symm (h : EnOk E) {p : C2} (u v : Int) : Stp E p u v → Stp E p v u := by
  rintro ⟨x, y, e, h1, h2⟩
  exact ⟨y, x, h.sy _ _ e, h2, h1⟩
theorem reg_not (h : EnOk E) (ac : Acy E) {p q : C2} (e : E p = some q) : ¬ Reg E q p.1 := fun r =>
  ac q p (h.sy _ _ e) r
theorem reg_sub (h : EnOk E) (ac : Acy E) {b o d : Int} {c : C2} (ho : o ≠ d) (e : E (b, o) = some c) {v : Int} (r : Reg E c v) : Reg E (b, d) v := by
  have hb : ∀ v, Reg E c v → v ≠ b := fun v z w => reg_not h ac e (by rw [← w]; exact z)
  have key : ∀ v, Rt (Stp E c) c.1 v → Rt (Stp E (b, d)) c.1 v := by
    intro v z
    induction z with
    | refl => exact .refl _
    | tail z s ih =>
      have h1 := hb _ z
      have h2 := hb _ (.tail z s)
      obtain ⟨x, y, e2, _, _⟩ := s
      exact .tail ih ⟨x, y, e2, fun w => h1 (by rw [Prod.mk.injEq] at w; exact w.1), fun w => h2 (by rw [Prod.mk.injEq] at w; exact w.1)⟩
  refine Rt.trans (Rt.one (b := c.1) ⟨o, c.2, e, fun w => ho (by rw [Prod.mk.injEq] at w; exact w.2), fun w => ?_⟩) (key v r)
  have := h.ne _ _ e
  rw [Prod.mk.injEq] at w
  exact this w.1.symm
theorem reg_avoid (h : EnOk E) (ac : Acy E) {p c : C2} (e : E p = some c) {v : Int} (r : Reg E c v) : Rc E (some p.1) c.1 v := by
  have hb : ∀ v, Reg E c v → v ≠ p.1 := fun v z w => reg_not h ac e (by rw [← w]; exact z)
  unfold Reg at r
  induction r with
  | refl => exact .refl _
  | tail z s ih =>
    have h1 := hb _ z
    have h2 := hb _ (.tail z s)
    obtain ⟨x, y, e2, _, _⟩ := s
    exact .tail ih ⟨⟨x, y, e2⟩, fun w => h1 (Option.some.inj w).symm, fun w => h2 (Option.some.inj w).symm⟩
theorem avoid_reg (h : EnOk E) {p c : C2} (e : E p = some c) {v : Int} (r : Rc E (some p.1) c.1 v) : Reg E c v := by
  refine Rt.mono (fun u v s => ?_) r
  obtain ⟨⟨x, y, e2⟩, h1, h2⟩ := s
  refine ⟨x, y, e2, fun w => ?_, fun w => ?_⟩
  · rw [w, h.sy _ _ e] at e2
    cases e2
    exact h2 rfl
  · have e3 := h.sy _ _ e2
    rw [w, h.sy _ _ e] at e3
    cases e3
    exact h1 rfl
theorem avoid_iff (h : EnOk E) (ac : Acy E) {p c : C2} (e : E p = some c) {v : Int} : Rc E (some p.1) c.1 v ↔ Reg E c v := ⟨avoid_reg h e, reg_avoid h ac e⟩
theorem reg_disj (h : EnOk E) (ac : Acy E) {b o1 o2 : Int} {c1 c2 : C2} (ho : o1 ≠ o2) (e1 : E (b, o1) = some c1) (e2 : E (b, o2) = some c2) {v : Int} (r1 : Reg E c1 v) (r2 : Reg E c2 v) : False := by
  have a2 := reg_avoid h ac e2 r2
  have key : Rt (Stp E c1) c2.1 v := by
    have hb : ∀ v, Reg E c2 v → v ≠ b := fun v z w => reg_not h ac e2 (by rw [← w]; exact z)
    unfold Reg at r2
    clear a2 r1
    induction r2 with
    | refl => exact .refl _
    | tail z s ih =>
      have h1 := hb _ z
      have h2 := hb _ (.tail z s)
      obtain ⟨x, y, e3, _, _⟩ := s
      refine .tail ih ⟨x, y, e3, fun w => ?_, fun w => ?_⟩
      · rw [w, h.sy _ _ e1] at e3
        cases e3
        exact h2 rfl
      · have e4 := h.sy _ _ e3
        rw [w, h.sy _ _ e1] at e4
        cases e4
        exact h1 rfl
  refine reg_not h ac e1 ((r1 : Rt _ _ _).trans ((key.symm (Stp.symm h)).trans (Rt.one ⟨c2.2, o2, h.sy _ _ e2, fun w => ?_, fun w => ?_⟩)))
  · have z : c2 = c1 := w
    have a := h.sy _ _ e1
    rw [← z, h.sy _ _ e2] at a
    cases a
    exact ho rfl
  · have := h.ne _ _ e1
    rw [← w] at this
    exact this rfl
def kidsO (E : En) (outs : C2 → List Int) (c : C2) : List C2 := (outs c).filterMap fun o => E (c.1, o)
structure OutOk (outs : C2 → List Int) : Prop where
  nd : ∀ c, (outs c).Nodup
  no : ∀ c, c.2 ∉ outs c
def bfsS (k : C2 → List C2) : Nat → List C2 → List C2
  | 0, _ => []
  | _ + 1, [] => []
  | f + 1, c :: w => c :: bfsS k f (w ++ k c)
/-- spreading in a web without rings: comings that were, comings that wait -/
structure QI (E : En) (outs : C2 → List Int) (r : C2) (P W : List C2) : Prop where
  nd : (P.map (·.1)).Nodup
  dj : W.Pairwise fun a b => ∀ v, Reg E a v → ¬ Reg E b v
  off : ∀ p ∈ P, ∀ w ∈ W, ¬ Reg E w p.1
  fr : ∀ c ∈ P ++ W, c = r ∨ ∃ p ∈ P, c ∈ kidsO E outs p
  sh : ∀ p ∈ P, ∀ c ∈ kidsO E outs p, c ∈ P ++ W
  rt : r ∈ P ++ W
variable {outs : C2 → List Int} {r : C2}
theorem mem_kids {c k : C2} : k ∈ kidsO E outs c ↔ ∃ o ∈ outs c, E (c.1, o) = some k := by
  unfold kidsO
  rw [List.mem_filterMap]
theorem QI.start : QI E outs r [] [r] := ⟨List.nodup_nil, List.pairwise_singleton .., fun p hp => (by cases hp), fun c hc => .inl (by simpa using hc), fun p hp => (by cases hp), by simp⟩
theorem kid_reg (h : EnOk E) (ac : Acy E) (ok : OutOk outs) {c k : C2} (hk : k ∈ kidsO E outs c) {v : Int} (r : Reg E k v) : Reg E c v ∧ v ≠ c.1 := by
  obtain ⟨o, ho, e⟩ := mem_kids.mp hk
  refine ⟨reg_sub h ac (d := c.2) (fun z => ok.no c (z ▸ ho)) e r, fun z => reg_not h ac e (by dsimp only; rw [← z]; exact r)⟩
theorem QI.fresh {c : C2} {P w : List C2} (q : QI E outs r P (c :: w)) : c.1 ∉ P.map (·.1) := fun z => by
  obtain ⟨p, hp, e⟩ := List.mem_map.mp z
  refine q.off p hp c (List.mem_cons_self ..) ?_
  rw [e]
  exact .refl _
theorem QI.step (h : EnOk E) (ac : Acy E) (ok : OutOk outs) {c : C2} {P w : List C2} (q : QI E outs r P (c :: w)) : QI E outs r (P ++ [c]) (w ++ kidsO E outs c) := by
  have hf := q.fresh
  obtain ⟨nd, dj, off, fr, sh, rt⟩ := q
  rw [List.pairwise_cons] at dj
  refine ⟨?_, ?_, ?_, ?_, ?_, ?_⟩
  · rw [List.map_append, List.nodup_append]
    refine ⟨nd, by simp, ?_⟩
    rintro a ha b hb rfl
    simp only [List.map_cons, List.map_nil, List.mem_singleton] at hb
    exact hf (hb ▸ ha)
  · rw [List.pairwise_append]
    refine ⟨dj.2, ?_, ?_⟩
    · unfold kidsO
      rw [List.pairwise_filterMap]
      refine (ok.nd c).imp fun {o1 o2} ho c1 e1 c2 e2 v r1 r2 => reg_disj h ac ho e1 e2 r1 r2
    · intro a ha k hk v ra rk
      exact dj.1 a ha v (kid_reg h ac ok hk rk).1 ra
  · intro p hp x hx rg
    rcases List.mem_append.mp hp with hp | hp
    · rcases List.mem_append.mp hx with hx | hx
      · exact off p hp x (List.mem_cons_of_mem _ hx) rg
      · exact off p hp c (List.mem_cons_self ..) (kid_reg h ac ok hx rg).1
    · simp only [List.mem_singleton] at hp
      subst hp
      rcases List.mem_append.mp hx with hx | hx
      · exact dj.1 x hx p.1 (.refl _) rg
      · exact (kid_reg h ac ok hx rg).2 rfl
  · intro x hx
    have old : x ∈ P ++ c :: w → x = r ∨ ∃ p ∈ P ++ [c], x ∈ kidsO E outs p := fun z => by
      rcases fr x z with z | ⟨p, hp, z⟩
      · exact .inl z
      · exact .inr ⟨p, List.mem_append_left _ hp, z⟩
    simp only [List.mem_append, List.mem_cons, List.not_mem_nil, or_false] at hx
    rcases hx with (z | z) | z | z
    · exact old (by simp [z])
    · exact old (by simp [z])
    · exact old (by simp [z])
    · exact .inr ⟨c, by simp, z⟩
  · intro p hp x hx
    simp only [List.mem_append, List.mem_cons, List.not_mem_nil, or_false] at hp ⊢
    rcases hp with hp | hp
    · have := sh p hp x hx
      simp only [List.mem_append, List.mem_cons] at this
      grind
    · subst hp
      exact .inr (.inr hx)
  · simp only [List.mem_append, List.mem_cons, List.not_mem_nil, or_false] at rt ⊢
    grind
/-- what holds at the start and stays holds at the end -/
theorem run_ind (h : EnOk E) (ac : Acy E) (ok : OutOk outs) {n : Nat} (rg : ∀ p q, E p = some q → 0 ≤ q.1 ∧ q.1 < (n : Int)) (J : List C2 → List C2 → Prop)
    (st : ∀ P c w, QI E outs r P (c :: w) → J P (c :: w) → J (P ++ [c]) (w ++ kidsO E outs c)) : ∀ (f : Nat) (P W : List C2), QI E outs r P W → (∀ c ∈ P ++ W, 0 ≤ c.1 ∧ c.1 < (n : Int)) → J P W → n < f + P.length →
    QI E outs r (P ++ bfsS (kidsO E outs) f W) [] ∧ (∀ c ∈ P ++ bfsS (kidsO E outs) f W, 0 ≤ c.1 ∧ c.1 < (n : Int)) ∧ J (P ++ bfsS (kidsO E outs) f W) []
  | 0, P, W, q, hr, j, hf => by
    have := nodup_le (n := n) q.nd (fun x hx => by
      obtain ⟨p, hp, rfl⟩ := List.mem_map.mp hx
      exact hr p (List.mem_append_left _ hp))
    rw [List.length_map] at this
    omega
  | f + 1, P, [], q, hr, j, hf => by
    rw [bfsS, List.append_nil]
    exact ⟨q, by simpa using hr, j⟩
  | f + 1, P, c :: w, q, hr, j, hf => by
    rw [bfsS]
    have := run_ind h ac ok rg J st f (P ++ [c]) (w ++ kidsO E outs c) (q.step h ac ok) (fun x hx => by
      simp only [List.mem_append, List.mem_cons, List.not_mem_nil, or_false] at hx
      rcases hx with (z | z) | z | z
      · exact hr x (by simp [z])
      · exact hr x (by simp [z])
      · exact hr x (by simp [z])
      · obtain ⟨o, _, e⟩ := mem_kids.mp z
        exact rg _ _ e) (st P c w q j) (by rw [List.length_append]; simp only [List.length_cons, List.length_nil]; omega)
    rw [List.append_assoc] at this
    exact this
theorem bfs_more (h : EnOk E) (ac : Acy E) (ok : OutOk outs) {n : Nat} (rg : ∀ p q, E p = some q → 0 ≤ q.1 ∧ q.1 < (n : Int)) : ∀ (f g : Nat) (P W : List C2), QI E outs r P W → (∀ c ∈ P ++ W, 0 ≤ c.1 ∧ c.1 < (n : Int)) → n < f + P.length → n < g + P.length → bfsS (kidsO E outs) f W = bfsS (kidsO E outs) g W
  | 0, g, P, W, q, hr, hf, hg => by
    have := nodup_le (n := n) q.nd (fun x hx => by
      obtain ⟨p, hp, rfl⟩ := List.mem_map.mp hx
      exact hr p (List.mem_append_left _ hp))
    rw [List.length_map] at this
    omega
  | f + 1, 0, P, W, q, hr, hf, hg => by
    have := nodup_le (n := n) q.nd (fun x hx => by
      obtain ⟨p, hp, rfl⟩ := List.mem_map.mp hx
      exact hr p (List.mem_append_left _ hp))
    rw [List.length_map] at this
    omega
  | f + 1, g + 1, P, [], q, hr, hf, hg => by rw [bfsS, bfsS]
  | f + 1, g + 1, P, c :: w, q, hr, hf, hg => by
    rw [bfsS, bfsS, bfs_more h ac ok rg f g (P ++ [c]) (w ++ kidsO E outs c) (q.step h ac ok) (fun x hx => by
      simp only [List.mem_append, List.mem_cons, List.not_mem_nil, or_false] at hx
      rcases hx with (z | z) | z | z
      · exact hr x (by simp [z])
      · exact hr x (by simp [z])
      · exact hr x (by simp [z])
      · obtain ⟨o, _, e⟩ := mem_kids.mp z
        exact rg _ _ e) (by rw [List.length_append]; simp only [List.length_cons, List.length_nil]; omega) (by rw [List.length_append]; simp only [List.length_cons, List.length_nil]; omega)]
/-- all that is joined is come to, if it goes out everywhere -/
theorem all_come {P : List C2} (h : EnOk E) (q : QI E outs r P []) (er : E r = none) (hall : ∀ c ∈ P, ∀ o k, E (c.1, o) = some k → o ≠ c.2 → o ∈ outs c) {v : Int} (j : Rc E none r.1 v) : v ∈ P.map (·.1) := by
  have hr : r ∈ P := by simpa using q.rt
  induction j with
  | refl => exact List.mem_map_of_mem hr
  | tail z s ih =>
    rename_i u v
    obtain ⟨⟨x, y, e⟩, _, _⟩ := s
    obtain ⟨c, hc, rfl⟩ := List.mem_map.mp ih
    by_cases hx : x = c.2
    · have ec : E c = some (v, y) := by rw [hx] at e; exact e
      have : c ∈ P ++ [] := by simpa using hc
      rcases q.fr c this with z | ⟨p, hp, z⟩
      · rw [z, er] at ec
        cases ec
      · obtain ⟨o, ho, e2⟩ := mem_kids.mp z
        have := h.sy _ _ e2
        rw [ec] at this
        cases this
        exact List.mem_map_of_mem hp
    · have := q.sh c hc (v, y) (mem_kids.mpr ⟨x, hall c hc x _ e hx, e⟩)
      rw [List.append_nil] at this
      exact List.mem_map_of_mem (f := (·.1)) this
/-- comings are joined to where it began; their doors lead back -/
def J1 (E : En) (r : C2) (L : List C2) : Prop := ∀ c ∈ L, Rc E none r.1 c.1 ∧ (c = r ∨ ∃ e, E c = some e ∧ Reg E e r.1)
theorem J1.start : J1 E r ([] ++ [r]) := fun c hc => by
  have : c = r := by simpa using hc
  rw [this]
  exact ⟨.refl _, .inl rfl⟩
theorem J1.step (h : EnOk E) (ac : Acy E) (ok : OutOk outs) {P w : List C2} {c : C2} (j : J1 E r (P ++ c :: w)) : J1 E r ((P ++ [c]) ++ (w ++ kidsO E outs c)) := by
  have old : ∀ x, x ∈ P ++ c :: w → Rc E none r.1 x.1 ∧ (x = r ∨ ∃ e, E x = some e ∧ Reg E e r.1) := j
  intro x hx
  simp only [List.mem_append, List.mem_cons, List.not_mem_nil, or_false] at hx
  rcases hx with (z | z) | z | z
  · exact old x (by simp [z])
  · exact old x (by simp [z])
  · exact old x (by simp [z])
  · obtain ⟨o, ho, e⟩ := mem_kids.mp z
    obtain ⟨jc, hc⟩ := old c (by simp)
    refine ⟨Rt.tail jc ⟨⟨o, x.2, e⟩, nofun, nofun⟩, .inr ⟨(c.1, o), h.sy _ _ e, ?_⟩⟩
    have hoc : c.2 ≠ o := fun w => ok.no c (w ▸ ho)
    rcases hc with hc | ⟨e', ec, rc⟩
    · rw [hc]
      exact .refl _
    · exact reg_sub h ac hoc (show E (c.1, c.2) = some e' from ec) rc
def LdT (E : En) (s p : C2) : Prop := match E p with
  | none => s = p
  | some e => Reg E e s.1
theorem ldt_none {s p : C2} (e : E p = none) : LdT E s p ↔ s = p := by unfold LdT; rw [e]
theorem ldt_some {s p k : C2} (e : E p = some k) : LdT E s p ↔ Reg E k s.1 := by unfold LdT; rw [e]
structure ThOk (E : En) (outs : C2 → List Int) (there : C2 → Option Int) : Prop where
  dr : ∀ b o k, E (b, o) = some k → 0 ≤ o ∧ o < 4
  non : ∀ c, there c = none → ∀ o, 0 ≤ o → o < 4 → o ≠ c.2 → o ∈ outs c
  som : ∀ c z, there c = some z → ∀ o, o ∈ outs c ↔ o = z ∧ z ≠ c.2
def Bad (E : En) (there : C2 → Option Int) (s c : C2) : Prop := ∃ z, there c = some z ∧ ¬ LdT E s (c.1, z) ∧ ¬ LdT E s c
def Got (outs : C2 → List Int) (s : C2) (P : List C2) : Prop := ∃ c ∈ P, c.1 = s.1 ∧ s.2 ∈ outs c
variable {there : C2 → Option Int} {s : C2}
/-- all that is known of the comings -/
theorem comes_ok (h : EnOk E) (ac : Acy E) (ok : OutOk outs) {n : Nat} (rg : ∀ p q, E p = some q → 0 ≤ q.1 ∧ q.1 < (n : Int)) (r0 : 0 ≤ r.1) (rn : r.1 < (n : Int)) {f : Nat} (hf : n < f) :
    QI E outs r (bfsS (kidsO E outs) f [r]) [] ∧ (∀ c ∈ bfsS (kidsO E outs) f [r], 0 ≤ c.1 ∧ c.1 < (n : Int)) ∧ J1 E r (bfsS (kidsO E outs) f [r]) := by
  have := run_ind (E := E) (outs := outs) (r := r) h ac ok rg (fun P W => J1 E r (P ++ W)) (fun P c w q j => j.step h ac ok) f [] [r] QI.start (by simp [r0, rn]) J1.start (by simpa using hf)
  simp only [List.nil_append, List.append_nil] at this
  exact this
end
def AdjL (ls : List Lk) (u v : Int) : Prop := ∃ l ∈ ls, (l.a = u ∧ l.b = v) ∨ (l.b = u ∧ l.a = v)
theorem AdjL.symm {ls : List Lk} (u v : Int) (h : AdjL ls u v) : AdjL ls v u := by
  obtain ⟨l, hl, h⟩ := h
  exact ⟨l, hl, by grind⟩
theorem AdjL.sub {ls ms : List Lk} (k : ∀ l ∈ ls, l ∈ ms) {u v : Int} (h : AdjL ls u v) : AdjL ms u v := by
  obtain ⟨l, hl, h⟩ := h
  exact ⟨l, k l hl, h⟩
/-- without any link its boxes aren't joined -/
def Br (ls : List Lk) : Prop := ∀ l rest, ls.Perm (l :: rest) → ¬ Rt (AdjL rest) l.a l.b
theorem Br.perm {ls ms : List Lk} (h : Br ls) (p : ls.Perm ms) : Br ms := fun l rest q => h l rest (p.trans q)
theorem rt_more {m : Lk} {ls : List Lk} {u v : Int} (h : Rt (AdjL (m :: ls)) u v) : Rt (AdjL ls) u v ∨ (Rt (AdjL ls) u m.a ∧ Rt (AdjL ls) m.b v) ∨ (Rt (AdjL ls) u m.b ∧ Rt (AdjL ls) m.a v) := by
  induction h with
  | refl => exact .inl (.refl _)
  | tail z s ih =>
    rename_i x y
    obtain ⟨l, hl, hs⟩ := s
    rcases List.mem_cons.mp hl with e | e
    · subst e
      rcases hs with ⟨e1, e2⟩ | ⟨e1, e2⟩
      · subst e1
        subst e2
        rcases ih with ih | ⟨h1, h2⟩ | ⟨h1, h2⟩
        · exact .inr (.inl ⟨ih, .refl _⟩)
        · exact .inr (.inl ⟨h1, .refl _⟩)
        · exact .inl h1
      · subst e1
        subst e2
        rcases ih with ih | ⟨h1, h2⟩ | ⟨h1, h2⟩
        · exact .inr (.inr ⟨ih, .refl _⟩)
        · exact .inl h1
        · exact .inr (.inr ⟨h1, .refl _⟩)
    · have s2 : AdjL ls x y := ⟨l, e, hs⟩
      rcases ih with ih | ⟨h1, h2⟩ | ⟨h1, h2⟩
      · exact .inl (.tail ih s2)
      · exact .inr (.inl ⟨h1, .tail h2 s2⟩)
      · exact .inr (.inr ⟨h1, .tail h2 s2⟩)
theorem Br.nil : Br [] := fun l rest p => by
  have := p.length_eq
  simp at this
theorem Br.cons {m : Lk} {ls : List Lk} (h : Br ls) (hm : ¬ Rt (AdjL ls) m.a m.b) : Br (m :: ls) := by
  intro l rest p hl
  by_cases e : l = m
  · subst e
    have p2 := List.Perm.cons_inv p
    exact hm (hl.mono fun u v => AdjL.sub fun x hx => p2.mem_iff.mpr hx)
  · have hmem : l ∈ ls := by
      have : l ∈ m :: ls := p.mem_iff.mpr (List.mem_cons_self ..)
      rcases List.mem_cons.mp this with z | z
      · exact absurd z e
      · exact z
    obtain ⟨s, t, rfl⟩ := List.append_of_mem hmem
    have p3 : (s ++ l :: t).Perm (l :: (s ++ t)) := List.perm_middle
    have p4 : rest.Perm (m :: (s ++ t)) := by
      refine List.Perm.cons_inv (a := l) (p.symm.trans ((List.Perm.cons m p3).trans (List.Perm.swap l m (s ++ t))))
    have hl2 : Rt (AdjL (m :: (s ++ t))) l.a l.b := hl.mono fun u v => AdjL.sub fun x hx => p4.mem_iff.mp hx
    have up : ∀ {u v}, Rt (AdjL (s ++ t)) u v → Rt (AdjL (s ++ l :: t)) u v := fun z => z.mono fun u v => AdjL.sub fun x hx => by
      simp only [List.mem_append, List.mem_cons] at hx ⊢
      grind
    have one : Rt (AdjL (s ++ l :: t)) l.a l.b := Rt.one ⟨l, by simp, .inl ⟨rfl, rfl⟩⟩
    have one2 := Rt.symm AdjL.symm one
    rcases rt_more hl2 with z | ⟨h1, h2⟩ | ⟨h1, h2⟩
    · exact h l (s ++ t) p3 z
    · exact hm ((Rt.symm AdjL.symm (up h1)).trans (one.trans (Rt.symm AdjL.symm (up h2))))
    · exact hm ((up h2).trans (one2.trans (up h1)))
theorem Br.tail {m : Lk} {ls : List Lk} (h : Br (m :: ls)) : Br ls := fun l rest p z => h l (m :: rest) ((List.Perm.cons m p).trans (List.Perm.swap l m rest)) (z.mono fun u v => AdjL.sub fun x hx => List.mem_cons_of_mem _ hx)
theorem Br.sub {ls ms : List Lk} (h : Br ls) : ms.Sublist ls → Br ms := by
  intro s
  induction s with
  | slnil => exact h
  | cons a s ih => exact ih h.tail
  | cons_cons a s ih =>
    refine Br.cons (ih h.tail) fun z => h a _ (List.Perm.refl _) (z.mono fun u v => AdjL.sub fun x hx => s.subset hx)
/-- no box has two links to lesser ones -/
theorem forest_br : ∀ {ls : List Lk}, (ls.map fun l => max l.a l.b).Nodup → (∀ l ∈ ls, l.a ≠ l.b) → Br ls := by
  intro ls
  induction h : ls.length generalizing ls with
  | zero =>
    intro _ _
    rw [List.length_eq_zero_iff.mp h]
    exact Br.nil
  | succ n ih =>
    intro nd hne
    -- the link with the greatest box
    obtain ⟨m, hm, hmax⟩ : ∃ m ∈ ls, ∀ l ∈ ls, max l.a l.b ≤ max m.a m.b := by
      have : ∀ (xs : List Lk), xs ≠ [] → ∃ m ∈ xs, ∀ l ∈ xs, max l.a l.b ≤ max m.a m.b := by
        intro xs
        induction xs with
        | nil => intro h; exact absurd rfl h
        | cons x xs ih =>
          intro _
          by_cases hx : xs = []
          · subst hx
            exact ⟨x, by simp, fun l hl => by simp at hl; rw [hl]; exact Int.le_refl _⟩
          · obtain ⟨m, hm, hb⟩ := ih hx
            by_cases c : max x.a x.b ≤ max m.a m.b
            · exact ⟨m, List.mem_cons_of_mem _ hm, fun l hl => by
                rcases List.mem_cons.mp hl with z | z
                · rw [z]; exact c
                · exact hb l z⟩
            · exact ⟨x, List.mem_cons_self .., fun l hl => by
                rcases List.mem_cons.mp hl with z | z
                · rw [z]; exact Int.le_refl _
                · have := hb l z; omega⟩
      exact this ls fun z => by rw [z] at h; simp at h
    obtain ⟨s, t, rfl⟩ := List.append_of_mem hm
    have pm : (s ++ m :: t).Perm (m :: (s ++ t)) := List.perm_middle
    have nd2 := (pm.map fun l => max l.a l.b).nodup_iff.mp nd
    rw [List.map_cons, List.nodup_cons] at nd2
    have hlen : (s ++ t).length = n := by have := pm.length_eq; rw [h] at this; simp only [List.length_cons] at this; omega
    have b := ih hlen nd2.2 fun l hl => hne l (pm.mem_iff.mpr (List.mem_cons_of_mem _ hl))
    refine Br.perm (Br.cons b fun z => ?_) pm.symm
    have nm := hne m hm
    have low : ∀ l ∈ s ++ t, max l.a l.b < max m.a m.b := fun l hl => by
      have h1 := hmax l (pm.mem_iff.mpr (List.mem_cons_of_mem _ hl))
      have h2 : max l.a l.b ≠ max m.a m.b := fun e => nd2.1 (by rw [← e]; exact List.mem_map_of_mem (f := fun l : Lk => max l.a l.b) hl)
      omega
    have stay : ∀ {u v}, Rt (AdjL (s ++ t)) u v → (u = max m.a m.b ↔ v = max m.a m.b) := fun {u v} z => by
      induction z with
      | refl => exact Iff.rfl
      | tail _ st ih =>
        obtain ⟨l, hl, he⟩ := st
        have := low l hl
        rw [ih]
        grind
    have := stay z
    grind
end Mg
namespace Dg
open Mg (Lk Kn NS Ltr C2 En EnOk Acy Reg Rc Rt AdjL AdjE Br Stp kidsO bfsS QI OutOk ThOk J1 LdT Bad Got)
theorem mem_ends {ls : List Lk} {p q : C2} : (p, q) ∈ Mg.endsF ls ↔ ∃ l ∈ ls, (Mg.e1 l = p ∧ Mg.e2 l = q) ∨ (Mg.e2 l = p ∧ Mg.e1 l = q) := by
  unfold Mg.endsF
  rw [List.mem_flatMap]
  simp only [List.mem_cons, List.not_mem_nil, or_false, Prod.mk.injEq]
  constructor
  · rintro ⟨l, hl, ⟨h1, h2⟩ | ⟨h1, h2⟩⟩
    · exact ⟨l, hl, .inl ⟨h1.symm, h2.symm⟩⟩
    · exact ⟨l, hl, .inr ⟨h1.symm, h2.symm⟩⟩
  · rintro ⟨l, hl, ⟨h1, h2⟩ | ⟨h1, h2⟩⟩
    · exact ⟨l, hl, .inl ⟨h1.symm, h2.symm⟩⟩
    · exact ⟨l, hl, .inr ⟨h1.symm, h2.symm⟩⟩
theorem ends_keys (ls : List Lk) : (Mg.endsF ls).map (·.1) = endsL ls := by
  unfold Mg.endsF endsL
  rw [List.map_flatMap]
  rfl
theorem find_key {es : List (C2 × C2)} (nd : (es.map (·.1)).Nodup) {p q : C2} : ((es.find? fun x => decide (x.1 = p)).map (·.2)) = some q ↔ (p, q) ∈ es := by
  induction es with
  | nil => simp
  | cons x es ih =>
    rw [List.map_cons, List.nodup_cons] at nd
    rw [List.find?_cons]
    by_cases c : x.1 = p
    · rw [decide_eq_true c]
      simp only [Option.map_some, Option.some.injEq, List.mem_cons]
      constructor
      · rintro rfl
        exact .inl (by rw [← c])
      · rintro (z | z)
        · rw [← z]
        · exact absurd (List.mem_map_of_mem (f := (·.1)) z) (fun w => nd.1 (by rw [c]; exact w))
    · rw [decide_eq_false c]
      dsimp only
      rw [ih nd.2, List.mem_cons]
      constructor
      · exact .inr
      · rintro (z | z)
        · exact absurd (by rw [← z]) c
        · exact z
section
variable {n : Int} {ls : List Lk}
theorem eGet_memE (hw : WebOk n ls) {p q : C2} : Mg.eGet ls p = some q ↔ (p, q) ∈ Mg.endsF ls := find_key (by rw [ends_keys]; exact hw.nd)
theorem eGet_iff (hw : WebOk n ls) {p q : C2} : Mg.eGet ls p = some q ↔ ∃ l ∈ ls, (Mg.e1 l = p ∧ Mg.e2 l = q) ∨ (Mg.e2 l = p ∧ Mg.e1 l = q) := (eGet_memE hw).trans mem_ends
theorem enOk (hw : WebOk n ls) : EnOk (Mg.eGet ls) := ⟨fun p q e => by
  rw [eGet_iff hw] at e ⊢
  obtain ⟨l, hl, h⟩ := e
  exact ⟨l, hl, h.symm.imp And.symm And.symm⟩, fun p q e => by
  obtain ⟨l, hl, h⟩ := (eGet_iff hw).mp e
  have := (hw.ok l hl).ne
  rcases h with ⟨h1, h2⟩ | ⟨h1, h2⟩
  · rw [← h1, ← h2]
    exact this
  · rw [← h1, ← h2]
    exact fun z => this z.symm⟩
theorem eGet_rg (hw : WebOk n ls) {p q : C2} (e : Mg.eGet ls p = some q) : BxOk n p ∧ BxOk n q := ⟨eGet_ok hw ((enOk hw).sy _ _ e), eGet_ok hw e⟩
theorem adj_iff (hw : WebOk n ls) {u v : Int} : AdjE (Mg.eGet ls) none u v ↔ AdjL ls u v := by
  constructor
  · rintro ⟨⟨x, y, e⟩, _, _⟩
    obtain ⟨l, hl, h⟩ := (eGet_iff hw).mp e
    refine ⟨l, hl, ?_⟩
    unfold Mg.e1 Mg.e2 at h
    simp only [Prod.mk.injEq] at h
    grind
  · rintro ⟨l, hl, h⟩
    refine ⟨?_, nofun, nofun⟩
    rcases h with ⟨rfl, rfl⟩ | ⟨rfl, rfl⟩
    · exact ⟨l.x, l.y, (eGet_iff hw).mpr ⟨l, hl, .inl ⟨rfl, rfl⟩⟩⟩
    · exact ⟨l.y, l.x, (eGet_iff hw).mpr ⟨l, hl, .inr ⟨rfl, rfl⟩⟩⟩
theorem adjc_iff (hw : WebOk n ls) {c : Option Int} {u v : Int} : AdjE (Mg.eGet ls) c u v ↔ ∃ l ∈ ls, ((l.a = u ∧ l.b = v) ∨ (l.b = u ∧ l.a = v)) ∧ c ≠ some u ∧ c ≠ some v := by
  have := adj_iff hw (u := u) (v := v)
  constructor
  · rintro ⟨h1, h2, h3⟩
    obtain ⟨l, hl, h⟩ := this.mp ⟨h1, nofun, nofun⟩
    exact ⟨l, hl, h, h2, h3⟩
  · rintro ⟨l, hl, h, h2, h3⟩
    exact ⟨(this.mpr ⟨l, hl, h⟩).1, h2, h3⟩
theorem acy_of (hw : WebOk n ls) (br : Br ls) : Acy (Mg.eGet ls) := fun p q e z => by
  obtain ⟨l, hl, h⟩ := (eGet_iff hw).mp e
  obtain ⟨s, t, rfl⟩ := List.append_of_mem hl
  have nd := hw.nd
  have key : Rt (AdjL (s ++ t)) p.1 q.1 := z.mono fun u v st => by
    obtain ⟨x, y, e2, n1, n2⟩ := st
    obtain ⟨m, hm, hh⟩ := (eGet_iff hw).mp e2
    have hml : m ∈ s ++ t ∨ m = l := by
      simp only [List.mem_append, List.mem_cons] at hm ⊢
      grind
    rcases hml with hml | rfl
    · refine ⟨m, hml, ?_⟩
      unfold Mg.e1 Mg.e2 at hh
      simp only [Prod.mk.injEq] at hh
      grind
    · exfalso
      rcases h with ⟨h1, h2⟩ | ⟨h1, h2⟩ <;> rcases hh with ⟨h3, h4⟩ | ⟨h3, h4⟩
      · exact n1 (h3.symm.trans h1)
      · exact n2 (h4.symm.trans h1)
      · exact n2 (h4.symm.trans h1)
      · exact n1 (h3.symm.trans h1)
  have b := br l (s ++ t) List.perm_middle
  rcases h with ⟨h1, h2⟩ | ⟨h1, h2⟩
  · rw [← h1, ← h2] at key
    exact b key
  · rw [← h1, ← h2] at key
    exact b (Rt.symm AdjL.symm key)
end
def Leads (st : NS) (b d h : Int) : Prop := match Mg.eGet st.ls (b, d) with
  | none => Mg.spotF st h = (b, d)
  | some e => Rc (Mg.eGet st.ls) (some b) e.1 (Mg.spotF st h).1
theorem leads_none {st : NS} {b d h : Int} (e : Mg.eGet st.ls (b, d) = none) : Leads st b d h ↔ Mg.spotF st h = (b, d) := by unfold Leads; rw [e]
theorem leads_some {st : NS} {b d h : Int} {k : C2} (e : Mg.eGet st.ls (b, d) = some k) : Leads st b d h ↔ Rc (Mg.eGet st.ls) (some b) k.1 (Mg.spotF st h).1 := by unfold Leads; rw [e]
theorem leads_ld {st : NS} (hw : WebOk st.n st.ls) (ac : Acy (Mg.eGet st.ls)) {b d h : Int} : Leads st b d h ↔ LdT (Mg.eGet st.ls) (Mg.spotF st h) (b, d) := by
  cases e : Mg.eGet st.ls (b, d) with
  | none => rw [leads_none e, Mg.ldt_none e]
  | some k => rw [leads_some e, Mg.ldt_some e]; exact Mg.avoid_iff (enOk hw) ac e
theorem leads_same {st st' : NS} (h1 : st'.ls = st.ls) (h2 : st'.spots = st.spots) {b d h : Int} : Leads st' b d h ↔ Leads st b d h := by
  unfold Leads Mg.spotF
  rw [h1, h2]
def thereS (st : NS) (t h : Int) (to : Option Int) (c : C2) : Option Int := to.bind fun z => Mg.doorF (Mg.learnF st c.1 h c.2 t) c.1 z t
def outsS (st : NS) (t h : Int) (to : Option Int) (c : C2) : List Int := Mg.outsF (Mg.learnF st c.1 h c.2 t) c.1 c.2 to t
def kidsS (st : NS) (t h : Int) (to : Option Int) : C2 → List C2 := kidsO (Mg.eGet st.ls) (outsS st t h to)
def comesF (st : NS) (t h : Int) (to : Option Int) : List C2 := bfsS (kidsS st t h to) 7 [Mg.spotF st h]
def gotsS (st : NS) (t h : Int) (to : Option Int) (c : C2) : List Int := (outsS st t h to c).flatMap fun o => if (Mg.eGet st.ls (c.1, o)).isNone = true then Mg.hostsF st (c.1, o) else []
theorem outsS_eq (st : NS) (t h : Int) (to : Option Int) (c : C2) : outsS st t h to c = match thereS st t h to c with
  | none => [0, 1, 2, 3].filter fun o => decide (o ≠ c.2)
  | some z => if z ≠ c.2 then [z] else [] := rfl
theorem outS_ok {st : NS} {t h : Int} {to : Option Int} : OutOk (outsS st t h to) := by
  constructor
  · intro c
    rw [outsS_eq]
    cases thereS st t h to c with
    | none => exact List.Pairwise.filter _ (by decide)
    | some z => dsimp only; split <;> simp
  · intro c
    rw [outsS_eq]
    cases thereS st t h to c with
    | none => simp
    | some z =>
      dsimp only
      split
      · rename_i hz
        simp only [List.mem_singleton]
        exact fun w => hz w.symm
      · simp
theorem thS_ok {st : NS} (hw : WebOk st.n st.ls) {t h : Int} {to : Option Int} : ThOk (Mg.eGet st.ls) (outsS st t h to) (thereS st t h to) := by
  refine ⟨fun b o k e => (eGet_rg hw e).1.2.2, fun c e o h0 h4 hne => ?_, fun c z e o => ?_⟩
  · rw [outsS_eq, e]
    dsimp only
    rw [List.mem_filter]
    refine ⟨?_, by simpa using hne⟩
    simp only [List.mem_cons, List.not_mem_nil, or_false]
    omega
  · rw [outsS_eq, e]
    dsimp only
    split
    · rename_i hz
      simp only [List.mem_singleton]
      exact ⟨fun w => ⟨w, hz⟩, fun w => w.1⟩
    · rename_i hz
      simp only [List.not_mem_nil, false_iff, not_and]
      exact fun _ w => hz w
/-- what is known behind comings -/
def knS (st : NS) (t h : Int) (P : List C2) (b : Int) : Kn := match P.find? (fun c => decide (c.1 = b)) with
  | some c => Mg.learnK st.room (Mg.knAt st b) h c.2 t
  | none => Mg.knAt st b
structure RunI (st : NS) (t h : Int) (to : Option Int) (P W : List C2) (c : Ltr) : Prop where
  w : c.w = W
  got : c.got = (Mg.ltr0 st t h).got ++ P.flatMap (gotsS st t h to)
  steps : c.steps = P.length
  n : c.st.n = st.n
  ls : c.st.ls = st.ls
  age : c.st.age = st.age
  room : c.st.room = st.room
  spots : c.st.spots = st.spots
  now : c.st.now = t
  kl : c.st.known.length = st.known.length
  kn : ∀ b, 0 ≤ b → b < st.n → Mg.knAt c.st b = knS st t h P b
theorem outs_foldl {st : NS} {b : Int} : ∀ (os : List Int) (w : List C2) (g : List Int), os.foldl (Mg.outF st b) (w, g) = (w ++ os.filterMap (fun o => Mg.eGet st.ls (b, o)), g ++ os.flatMap fun o => if (Mg.eGet st.ls (b, o)).isNone = true then Mg.hostsF st (b, o) else [])
  | [], w, g => by simp
  | o :: os, w, g => by
    rw [List.foldl_cons, List.filterMap_cons, List.flatMap_cons]
    unfold Mg.outF
    cases e : Mg.eGet st.ls (b, o) with
    | none =>
      have := outs_foldl (st := st) (b := b) os w (g ++ Mg.hostsF st (b, o))
      unfold Mg.outF at this
      dsimp only
      rw [this]
      simp
    | some k =>
      have := outs_foldl (st := st) (b := b) os (w ++ [k]) g
      unfold Mg.outF at this
      dsimp only
      rw [this]
      simp
theorem knAt_set {st : NS} {b : Int} {kn : Kn} (h0 : 0 ≤ b) (h1 : b < st.known.length) (g : Int) (g0 : 0 ≤ g) : Mg.knAt { st with known := st.known.set b.toNat kn } g = if g = b then kn else Mg.knAt st g := by
  unfold Mg.knAt
  dsimp only
  rw [List.getD_eq_getElem?_getD, List.getD_eq_getElem?_getD]
  by_cases c : g = b
  · rw [if_pos c, c, List.getElem?_set_self (by omega)]
    rfl
  · rw [if_neg c, List.getElem?_set_ne (by omega)]
theorem knAt_learn {st : NS} {b h d t : Int} (h0 : 0 ≤ b) (h1 : b < st.known.length) (g : Int) (g0 : 0 ≤ g) : Mg.knAt (Mg.learnF st b h d t) g = if g = b then Mg.learnK st.room (Mg.knAt st b) h d t else Mg.knAt st g := knAt_set h0 h1 g g0
theorem doorF_kn {st st' : NS} {b h t : Int} (h1 : Mg.knAt st b = Mg.knAt st' b) (h2 : st.age = st'.age) : Mg.doorF st b h t = Mg.doorF st' b h t := by
  unfold Mg.doorF
  rw [h1, h2]
theorem outsF_kn {st st' : NS} {b d t : Int} {to : Option Int} (h1 : Mg.knAt st b = Mg.knAt st' b) (h2 : st.age = st'.age) : Mg.outsF st b d to t = Mg.outsF st' b d to t := by
  unfold Mg.outsF
  have : (fun z => Mg.doorF st b z t) = fun z => Mg.doorF st' b z t := by
    funext z
    exact doorF_kn h1 h2
  rw [this]
theorem hostsF_sp {st st' : NS} {p : C2} (h : st.spots = st'.spots) : Mg.hostsF st p = Mg.hostsF st' p := by
  unfold Mg.hostsF
  rw [h]
theorem knS_new {st : NS} {t h : Int} {P : List C2} {b : Int} (hb : b ∉ P.map (·.1)) : knS st t h P b = Mg.knAt st b := by
  unfold knS
  rw [List.find?_eq_none.mpr (fun c hc => by simpa using fun z : c.1 = b => hb (z ▸ List.mem_map_of_mem hc))]
theorem run_step {st : NS} {t h : Int} {to : Option Int} (hkl : (st.known.length : Int) = st.n) {P w : List C2} {c0 : C2} {c : Ltr} (r : RunI st t h to P (c0 :: w) c) (hf : c0.1 ∉ P.map (·.1)) (h0 : 0 ≤ c0.1) (h1 : c0.1 < st.n) : RunI st t h to (P ++ [c0]) (w ++ kidsS st t h to c0) (Mg.stepF h to t c) := by
  obtain ⟨hw, hg, hs, hn, hls, ha, hr, hsp, hnow, hl, hk⟩ := r
  rw [step_eq hw]
  have hbk : c0.1 < c.st.known.length := by rw [hl]; omega
  have k1 : Mg.knAt c.st c0.1 = Mg.knAt st c0.1 := by rw [hk _ h0 h1, knS_new hf]
  have e1 : Mg.knAt (Mg.learnF c.st c0.1 h c0.2 t) c0.1 = Mg.knAt (Mg.learnF st c0.1 h c0.2 t) c0.1 := by
    rw [knAt_learn h0 hbk _ h0, knAt_learn h0 (by omega) _ h0, if_pos rfl, if_pos rfl, hr, k1]
  have eo : Mg.outsF (Mg.learnF c.st c0.1 h c0.2 t) c0.1 c0.2 to t = outsS st t h to c0 := outsF_kn e1 ha
  rw [eo, outs_foldl]
  have els : (Mg.learnF c.st c0.1 h c0.2 t).ls = st.ls := hls
  have esp : ∀ p, Mg.hostsF (Mg.learnF c.st c0.1 h c0.2 t) p = Mg.hostsF st p := fun p => hostsF_sp hsp
  simp only [els, esp]
  refine ⟨rfl, ?_, ?_, hn, hls, ha, hr, hsp, hnow, ?_, fun b b0 b1 => ?_⟩
  · dsimp only
    rw [hg, List.flatMap_append, List.append_assoc]
    simp [gotsS]
  · dsimp only
    rw [hs]
    simp
  · show (c.st.known.set _ _).length = _
    rw [List.length_set, hl]
  · show Mg.knAt (Mg.learnF c.st c0.1 h c0.2 t) b = _
    rw [knAt_learn h0 hbk _ b0, hr, k1]
    unfold knS
    rw [List.find?_append]
    by_cases e : b = c0.1
    · subst e
      rw [if_pos rfl, List.find?_eq_none.mpr (fun c hc => by simpa using fun z : c.1 = c0.1 => hf (z ▸ List.mem_map_of_mem hc))]
      simp
    · rw [if_neg e, hk b b0 b1]
      have : List.find? (fun c : C2 => decide (c.1 = b)) [c0] = none := by simp; exact fun z => e z.symm
      rw [this, Option.or_none]
      rfl
section
variable {st : NS} {t h : Int} {to : Option Int}
theorem rg_of (hw : WebOk st.n st.ls) : ∀ p q, Mg.eGet st.ls p = some q → 0 ≤ q.1 ∧ q.1 < (st.n.toNat : Int) := fun p q e => by
  have := eGet_ok hw e
  have := hw.n1
  omega
theorem go_run (hok : NOk st) (ac : Acy (Mg.eGet st.ls)) : ∀ (f : Nat) (P W : List C2) (c : Ltr), QI (Mg.eGet st.ls) (outsS st t h to) (Mg.spotF st h) P W → (∀ c ∈ P ++ W, 0 ≤ c.1 ∧ c.1 < (st.n.toNat : Int)) → RunI st t h to P W c → st.n.toNat < f + P.length → RunI st t h to (P ++ bfsS (kidsS st t h to) f W) [] (Mg.goF h to t f c)
  | 0, P, W, c, q, hr, r, hf => by
    have := Mg.nodup_le (n := st.n.toNat) q.nd (fun x hx => by
      obtain ⟨p, hp, rfl⟩ := List.mem_map.mp hx
      exact hr p (List.mem_append_left _ hp))
    rw [List.length_map] at this
    omega
  | f + 1, P, [], c, q, hr, r, hf => by
    rw [bfsS, List.append_nil, Mg.goF, if_pos r.w]
    exact r
  | f + 1, P, c0 :: w, c, q, hr, r, hf => by
    rw [bfsS, Mg.goF, if_neg (by rw [r.w]; simp)]
    have hc := hr c0 (by simp)
    have n1 := hok.web.n1
    have s := run_step hok.kl r q.fresh hc.1 (by omega)
    have := go_run hok ac f (P ++ [c0]) (w ++ kidsS st t h to c0) _ (q.step (enOk hok.web) ac outS_ok) (fun x hx => by
      simp only [List.mem_append, List.mem_cons, List.not_mem_nil, or_false] at hx
      rcases hx with (z | z) | z | z
      · exact hr x (by simp [z])
      · exact hr x (by simp [z])
      · exact hr x (by simp [z])
      · obtain ⟨o, _, e⟩ := Mg.mem_kids.mp z
        exact rg_of hok.web _ _ e) s (by rw [List.length_append]; simp only [List.length_cons, List.length_nil]; omega)
    rw [List.append_assoc] at this
    exact this
theorem spot_ok (hok : NOk st) (h0 : 0 ≤ h) (h1 : h < st.spots.length) : PlOk st.n st.ls (Mg.spotF st h) := hok.pl _ (spot_at h0 h1).2
/-- the letter's way, in a web without a ring -/
theorem send_run (hok : NOk st) (hl : LtOk st t h to) (br : Br st.ls) : RunI st t h to (comesF st t h to) [] (Mg.sendF st t h to) := by
  have ac := acy_of hok.web br
  have sp := spot_ok hok hl.2.2.1 hl.2.2.2.1
  have n1 := hok.web.n1
  have n6 := hok.web.n6
  have hr : ∀ c ∈ [] ++ [Mg.spotF st h], 0 ≤ c.1 ∧ c.1 < (st.n.toNat : Int) := by
    intro c hc
    have : c = Mg.spotF st h := by simpa using hc
    rw [this]
    have := sp.b0
    have := sp.bn
    omega
  have := go_run (t := t) (h := h) (to := to) hok ac 60 [] [Mg.spotF st h] (Mg.ltr0 st t h) QI.start hr ⟨rfl, by simp, rfl, rfl, rfl, rfl, rfl, rfl, rfl, rfl, fun _ _ _ => rfl⟩ (by simp; omega)
  rw [List.nil_append, kidsS, Mg.bfs_more (enOk hok.web) ac outS_ok (rg_of hok.web) 60 7 [] [Mg.spotF st h] QI.start hr (by simp; omega) (by simp; omega)] at this
  exact this
theorem comes_all (hok : NOk st) (hl : LtOk st t h to) (br : Br st.ls) : QI (Mg.eGet st.ls) (outsS st t h to) (Mg.spotF st h) (comesF st t h to) [] ∧ (∀ c ∈ comesF st t h to, 0 ≤ c.1 ∧ c.1 < (st.n.toNat : Int)) ∧ J1 (Mg.eGet st.ls) (Mg.spotF st h) (comesF st t h to) := by
  have sp := spot_ok hok hl.2.2.1 hl.2.2.2.1
  have n1 := hok.web.n1
  have n6 := hok.web.n6
  have b0 := sp.b0
  have bn := sp.bn
  exact Mg.comes_ok (enOk hok.web) (acy_of hok.web br) outS_ok (rg_of hok.web) b0 (by omega) (by omega)
end
end Dg
namespace Mg
theorem rc_open {E : En} {c : Option Int} {u v : Int} (h : Rc E c u v) (hu : c ≠ some u) : c ≠ some v := by
  induction h with
  | refl => exact hu
  | tail _ s _ => exact s.2.2
structure SpI (E : En) (c : Option Int) (u : Int) (n : Nat) (D : Int → Prop) (found left : List Int) : Prop where
  me : u ∈ found
  nd : found.Nodup
  rg : ∀ v ∈ found, 0 ≤ v ∧ v < (n : Int)
  ok : ∀ v ∈ found, Rc E c u v
  sub : ∀ v ∈ left, v ∈ found
  sh : ∀ v ∈ found, v ∉ left → ¬ D v → ∀ w, AdjE E c v w → w ∈ found
section
variable {E : En} {c : Option Int} {u : Int} {n : Nat} {found left : List Int}
theorem SpI.start (h0 : 0 ≤ u) (h1 : u < (n : Int)) : SpI E c u n (fun _ => False) [u] [u] := ⟨by simp, by simp, by simp [h0, h1], by simp; exact .refl _, by simp, by simp⟩
theorem SpI.len {D : Int → Prop} (h : SpI E c u n D found left) : found.length ≤ n := nodup_le h.nd h.rg
theorem SpI.pop {here : Int} (h : SpI E c u n (fun _ => False) found (left ++ [here])) : SpI E c u n (fun v => v = here) found left := by
  obtain ⟨h1, h2, h3, h4, h5, h6⟩ := h
  refine ⟨h1, h2, h3, h4, fun v hv => h5 v (by simp [hv]), fun v hv hl hd => h6 v hv (by simp [hl]; exact hd) (fun z => z)⟩
theorem SpI.add {here w : Int} (h : SpI E c u n (fun v => v = here) found left) (hc : c ≠ some u) (hh : here ∈ found) (hw : w ∉ found) (h0 : 0 ≤ w) (h1 : w < (n : Int)) (e : ∃ x y, E (here, x) = some (w, y)) (hcw : c ≠ some w) : SpI E c u n (fun v => v = here) (found ++ [w]) (left ++ [w]) := by
  obtain ⟨g1, g2, g3, g4, g5, g6⟩ := h
  refine ⟨by simp [g1], ?_, ?_, ?_, ?_, ?_⟩
  · rw [List.nodup_append]
    refine ⟨g2, by simp, ?_⟩
    rintro a ha b hb rfl
    simp only [List.mem_singleton] at hb
    exact hw (hb ▸ ha)
  · intro v hv
    rcases List.mem_append.mp hv with z | z
    · exact g3 v z
    · simp only [List.mem_singleton] at z
      rw [z]; exact ⟨h0, h1⟩
  · intro v hv
    rcases List.mem_append.mp hv with z | z
    · exact g4 v z
    · simp only [List.mem_singleton] at z
      rw [z]
      exact .tail (g4 here hh) ⟨e, rc_open (g4 here hh) hc, hcw⟩
  · intro v hv
    rcases List.mem_append.mp hv with z | z
    · simp [g5 v z]
    · simp only [List.mem_singleton] at z
      simp [z]
  · intro v hv hl hd x hx
    simp only [List.mem_append, List.mem_singleton, not_or] at hv hl ⊢
    rcases hv with z | z
    · exact .inl (g6 v z hl.1 hd x hx)
    · exact absurd z hl.2
theorem SpI.done {here : Int} (h : SpI E c u n (fun v => v = here) found left) (k : ∀ w, AdjE E c here w → w ∈ found) : SpI E c u n (fun _ => False) found left := by
  obtain ⟨h1, h2, h3, h4, h5, h6⟩ := h
  refine ⟨h1, h2, h3, h4, h5, fun v hv hl _ w hw => ?_⟩
  by_cases e : v = here
  · subst e
    exact k w hw
  · exact h6 v hv hl e w hw
theorem SpI.all (h : SpI E c u n (fun _ => False) found []) (v : Int) : v ∈ found ↔ Rc E c u v := by
  constructor
  · exact h.ok v
  · intro r
    induction r with
    | refl => exact h.me
    | tail _ s ih => exact h.sh _ ih (by simp) (fun z => z) _ s
end
def gL (f : List (List Int)) (u : Int) : List Int := f.getD u.toNat []
def setAll (f : List (List Int)) (bs x : List Int) : List (List Int) := bs.foldl (fun f b => f.set b.toNat x) f
theorem setAll_len {x : List Int} : ∀ {bs : List Int} {f : List (List Int)}, (setAll f bs x).length = f.length
  | [], f => rfl
  | b :: bs, f => by
    have := setAll_len (x := x) (bs := bs) (f := f.set b.toNat x)
    rw [List.length_set] at this
    exact this
theorem gL_set {f : List (List Int)} {x : List Int} {b u : Int} (h0 : 0 ≤ b) (h1 : b < f.length) (u0 : 0 ≤ u) : gL (f.set b.toNat x) u = if u = b then x else gL f u := by
  unfold gL
  rw [List.getD_eq_getElem?_getD, List.getD_eq_getElem?_getD]
  by_cases e : u = b
  · rw [if_pos e, e, List.getElem?_set_self (by omega)]
    rfl
  · rw [if_neg e, List.getElem?_set_ne (by omega)]
theorem gL_all {x : List Int} {u : Int} (u0 : 0 ≤ u) : ∀ {bs : List Int} {f : List (List Int)}, (∀ b ∈ bs, 0 ≤ b ∧ b < f.length) → gL (setAll f bs x) u = if u ∈ bs then x else gL f u
  | [], f, _ => by simp [setAll]
  | b :: bs, f, h => by
    have hb := h b (List.mem_cons_self ..)
    have := gL_all u0 (x := x) (bs := bs) (f := f.set b.toNat x) (fun y hy => by rw [List.length_set]; exact h y (List.mem_cons_of_mem _ hy))
    show gL (setAll (f.set b.toNat x) bs x) u = _
    rw [this, gL_set hb.1 hb.2 u0]
    by_cases e1 : u ∈ bs
    · rw [if_pos e1, if_pos (List.mem_cons_of_mem _ e1)]
    · rw [if_neg e1]
      by_cases e2 : u = b
      · rw [if_pos e2, if_pos (by simp [e2])]
      · rw [if_neg e2, if_neg (by simp [e1, e2])]
structure JI (E : En) (c : Option Int) (n : Nat) (f : List (List Int)) : Prop where
  len : f.length = n
  ri : ∀ u, 0 ≤ u → u < (n : Int) → (gL f u).Pairwise (· < ·)
  rg : ∀ u, 0 ≤ u → u < (n : Int) → ∀ v ∈ gL f u, 0 ≤ v ∧ v < (n : Int)
  me : ∀ u, 0 ≤ u → u < (n : Int) → u ∈ gL f u
  cl : ∀ u, 0 ≤ u → u < (n : Int) → ∀ v ∈ gL f u, gL f v = gL f u
  ok : ∀ u, 0 ≤ u → u < (n : Int) → ∀ v ∈ gL f u, Rc E c u v
def Dn (c : Option Int) (f : List (List Int)) (l : Lk) : Prop := c ≠ some l.a → c ≠ some l.b → gL f l.a = gL f l.b
section
variable {E : En} {c : Option Int} {n : Nat} {f : List (List Int)}
theorem JI.start : JI E c n ((rangeI n).map fun u => [u]) := by
  have at_ : ∀ u, 0 ≤ u → u < (n : Int) → gL ((rangeI n).map fun u => [u]) u = [u] := fun u h0 h1 => by
    unfold gL rangeI
    rw [List.getD_eq_getElem?_getD, List.getElem?_map, List.getElem?_map, List.getElem?_range (by omega)]
    simp
    omega
  refine ⟨by simp [rangeI], ?_, ?_, ?_, ?_, ?_⟩
  · intro u h0 h1; rw [at_ u h0 h1]; simp
  · intro u h0 h1 v hv
    rw [at_ u h0 h1, List.mem_singleton] at hv
    rw [hv]; exact ⟨h0, h1⟩
  · intro u h0 h1; rw [at_ u h0 h1]; simp
  · intro u h0 h1 v hv
    rw [at_ u h0 h1, List.mem_singleton] at hv
    rw [hv]
  · intro u h0 h1 v hv
    rw [at_ u h0 h1, List.mem_singleton] at hv
    rw [hv]; exact .refl _
/-- a link is used -/
theorem JI.step (sy : ∀ a b, AdjE E c a b → AdjE E c b a) (j : JI E c n f) {a b : Int} (a0 : 0 ≤ a) (an : a < (n : Int)) (b0 : 0 ≤ b) (bn : b < (n : Int)) (ad : AdjE E c a b) {x : List Int} (hx : x.Pairwise (· < ·)) (hm : ∀ v, v ∈ x ↔ v ∈ gL f a ++ gL f b) :
    JI E c n (setAll f x x) ∧ gL (setAll f x x) a = gL (setAll f x x) b ∧ ∀ l : Lk, (0 ≤ l.a ∧ l.a < (n : Int) ∧ 0 ≤ l.b ∧ l.b < (n : Int)) → Dn c f l → Dn c (setAll f x x) l := by
  obtain ⟨len, ri, rg, me, cl, ok⟩ := j
  have xr : ∀ v ∈ x, 0 ≤ v ∧ v < (n : Int) := fun v hv => by
    rcases List.mem_append.mp ((hm v).mp hv) with z | z
    · exact rg a a0 an v z
    · exact rg b b0 bn v z
  have at_ : ∀ u, 0 ≤ u → gL (setAll f x x) u = if u ∈ x then x else gL f u := fun u u0 => gL_all u0 fun v hv => by rw [len]; exact xr v hv
  have mx : ∀ u, 0 ≤ u → u < (n : Int) → (u ∈ x ↔ gL f u = gL f a ∨ gL f u = gL f b) := fun u u0 un => by
    rw [hm, List.mem_append]
    constructor
    · rintro (z | z)
      · exact .inl (cl a a0 an u z)
      · exact .inr (cl b b0 bn u z)
    · rintro (z | z)
      · exact .inl (z ▸ me u u0 un)
      · exact .inr (z ▸ me u u0 un)
  have ax : a ∈ x := (mx a a0 an).mpr (.inl rfl)
  have bx : b ∈ x := (mx b b0 bn).mpr (.inr rfl)
  have rab : Rc E c a b := Rt.one ad
  have toA : ∀ v ∈ x, Rc E c a v := fun v hv => by
    rcases List.mem_append.mp ((hm v).mp hv) with z | z
    · exact ok a a0 an v z
    · exact rab.trans (ok b b0 bn v z)
  refine ⟨⟨by rw [setAll_len]; exact len, ?_, ?_, ?_, ?_, ?_⟩, ?_, ?_⟩
  · intro u u0 un
    rw [at_ u u0]
    split
    · exact hx
    · exact ri u u0 un
  · intro u u0 un v
    rw [at_ u u0]
    split
    · exact xr v
    · exact rg u u0 un v
  · intro u u0 un
    rw [at_ u u0]
    split
    · assumption
    · exact me u u0 un
  · intro u u0 un v
    rw [at_ u u0]
    split
    · intro hv
      rw [at_ v (xr v hv).1, if_pos hv]
    · rename_i hu
      intro hv
      have hr := rg u u0 un v hv
      have e := cl u u0 un v hv
      rw [at_ v hr.1, if_neg (fun z => hu ((mx u u0 un).mpr (by rw [← e]; exact (mx v hr.1 hr.2).mp z)))]
      exact e
  · intro u u0 un v
    rw [at_ u u0]
    split
    · rename_i hu
      intro hv
      exact (Rt.symm sy (toA u hu)).trans (toA v hv)
    · exact ok u u0 un v
  · rw [at_ a a0, at_ b b0, if_pos ax, if_pos bx]
  · rintro l ⟨h1, h2, h3, h4⟩ d c1 c2
    have e := d c1 c2
    rw [at_ l.a h1, at_ l.b h3]
    have : l.a ∈ x ↔ l.b ∈ x := by rw [mx l.a h1 h2, mx l.b h3 h4, e]
    by_cases z : l.a ∈ x
    · rw [if_pos z, if_pos (this.mp z)]
    · rw [if_neg z, if_neg (fun w => z (this.mpr w))]
      exact e
theorem JI.all {ls : List Lk} (j : JI E c n f) (ha : ∀ u v, AdjE E c u v → ∃ l ∈ ls, ((l.a = u ∧ l.b = v) ∨ (l.b = u ∧ l.a = v)) ∧ c ≠ some u ∧ c ≠ some v) (d : ∀ l ∈ ls, Dn c f l) (rg : ∀ u v, AdjE E c u v → 0 ≤ v ∧ v < (n : Int)) {u : Int} (u0 : 0 ≤ u) (un : u < (n : Int)) (v : Int) : v ∈ gL f u ↔ Rc E c u v := by
  constructor
  · exact j.ok u u0 un v
  · intro r
    induction r with
    | refl => exact j.me u u0 un
    | @tail x y z s ih =>
      obtain ⟨l, hl, he, c1, c2⟩ := ha x y s
      have hx := j.rg u u0 un x ih
      have hy := rg x y s
      have e : gL f x = gL f y := by
        rcases he with ⟨rfl, rfl⟩ | ⟨rfl, rfl⟩
        · exact d l hl c1 c2
        · exact (d l hl c2 c1).symm
      have e2 := j.cl u u0 un x ih
      rw [← e2, e]
      exact j.me y hy.1 hy.2
end
theorem rising_same : ∀ {xs ys : List Int}, xs.Pairwise (· < ·) → ys.Pairwise (· < ·) → (∀ v, v ∈ xs ↔ v ∈ ys) → xs = ys := by
  intro xs ys hx hy h
  have nx : xs.Nodup := hx.imp fun h => by omega
  have ny : ys.Nodup := hy.imp fun h => by omega
  exact rising_eq ((List.perm_ext_iff_of_nodup nx ny).mpr h) (hx.imp fun h => by omega) (hy.imp fun h => by omega)
end Mg
namespace Dg
open PySem PySem.Spec L2
open PyProof.Rows
section
variable {X : Cx} {pins : List (Addr × Obj)} {σ : L2.St} {H : Hp} {s : Shared} {d : Addr} {o : Obj}
theorem lockedT {kvs : List (List Key × V)} (I : Inv X pins σ H s) (h : H d = some (.frz o (.dT kvs))) : (d == sysModules) = false ∧ s.heap.get? d = some o ∧ o.ExactDict ∧ ∃ (es : Array DictEntry) (ep : Nat), o.data = .dict es ep ∧ es.size = kvs.length ∧
    ∀ (i : Nat) (k : List Key) (v : V), kvs[i]? = some (k, v) → ∃ (en : DictEntry) (q : Addr), es[i]? = some en ∧ en.key = .ref q ∧ H q = some (.tup (k.map kV)) ∧ RelV v en.val := by
  obtain ⟨g1, z, g2, xs, pr, o2, es, ep, g3, g4, g5, g6, _⟩ := I.hok d _ h
  have eo : o = o2 := Option.some.inj (g1.symm.trans g3)
  subst eo
  refine ⟨g2, g1, g4, es, ep, g5, ?_, fun i k v e => ?_⟩
  · have l1 : es.size = xs.length := size_of_entries g6
    rw [l1, ← Paired.length pr]
  · obtain ⟨b, hb, e1, e2, e3⟩ := paired_get pr e
    have q := entry_at g6 i
    rw [hb] at q
    exact ⟨_, b.2.1, q, rfl, e2, e3⟩
end
/-- the pairs (key's tuple, value), each a new tuple -/
def ItT (d : Addr) (o : Obj) (kvs : List (List Key × V)) : It :=
  ⟨fun i H => H d = some (.frz o (.dT kvs)) ∧ i < kvs.length, fun i H x H' => ∃ (T : Addr) (k : List Key) (v : V) (q : Addr), kvs[i]? = some (k, v) ∧ x = .ref T ∧ H T = none ∧ H q = some (.tup (k.map kV)) ∧ H' = upd H T (.tup [.ref q, v]),
    fun i H => H d = some (.frz o (.dT kvs)) ∧ kvs.length ≤ i⟩
section
variable {P : Program} {w : World} {K : PySem.W.Frag} {d : Addr} {o : Obj} {es : Array DictEntry} {ep : Nat}
theorem turn_T {kvs : List (List Key × V)} {elts : List Expr} {kk : Nat} {tpos : Pos} (it : Addr) (hod : o.data = .dict es ep) :
    Turn P w K (.Tuple elts kk tpos) (ItT d o kvs) [it] it (fun i h => ∃ ok ov, h.get? it = some (DVw.itmOb d .none i kvs.length ep ok ov)) := by
  refine ⟨List.mem_singleton.mpr rfl, fun i h st b hb => ?_, fun i h h' ⟨ok, ov, e⟩ k => ⟨ok, ov, k it (List.mem_singleton.mpr rfl) _ e⟩, ?_, ?_, fun A i s Q E ⟨_, _, e⟩ h => PySem.W.kcp_self e h⟩
  · obtain rfl := List.mem_singleton.mp hb
    obtain ⟨ok, ov, e⟩ := st
    exact ⟨_, e, fun v z => nomatch z⟩
  · intro X hP hw hK hc i pins s σ H E I hf ⟨ok, ov, hit⟩ ⟨hd, hi⟩
    subst hP hw hK
    obtain ⟨_, g1, _, es2, ep2, g2, g3, ent⟩ := lockedT I hd
    obtain ⟨rfl, rfl⟩ := dict_ep hod g2
    obtain ⟨k, v, hkv⟩ : ∃ k v, kvs[i]? = some (k, v) := ⟨kvs[i].1, kvs[i].2, List.getElem?_eq_getElem hi⟩
    obtain ⟨en, q, hen, hkey, hq, rv⟩ := ent i k v hkv
    have hlt : it < s.heap.objs.size := Heap.lt_size hit
    refine DVw.itm_item hit g1 g2 g3 hen fun h1 b1 b2 b3 b4 => ⟨_, rfl, wpAny_letOwnedTupleGo_items (s := { s with heap := h1 }) (d := d) (i := i + 1) (n := kvs.length) (ok := en.key) (ov := en.val) b1 fun h2 he sb => ?_⟩
    have t2 := (sb.2 _ (Nat.ne_of_gt hlt)).trans b2
    have new : ObjOk X.prog X.w (upd H s.heap.objs.size (.tup [.ref q, v])) h2 s.heap.objs.size (.tup [.ref q, v]) := ⟨(show 2 ≤ sizeLine by decide), [en.key, en.val], .cons hkey (.cons rv .nil), ⟨_, t2, rfl, _, rfl⟩⟩
    have J := I.turnedNew (t' := s.toks) (ch := [it]) (h' := h2) (fun b ob hb z => (sb.2 b (by simpa using hb)).trans (b4 b ob (by simpa using hb) z)) hf (Nat.le_refl _) new
    refine ⟨.ref s.heap.objs.size, _, J, rfl, ⟨_, k, v, q, hkv, rfl, I.hok.fresh (Nat.le_refl _), hq, rfl⟩, ⟨en.key, en.val, he⟩, fun b hb => ?_⟩
    obtain rfl := List.mem_singleton.mp hb
    rw [upd_ne (Nat.ne_of_lt hlt)]
    exact (hf b hb).1
  · intro X hP hw hK hc i pins s σ H E I hf ⟨ok, ov, hit⟩ ⟨hd, hi⟩
    subst hP hw hK
    obtain ⟨f0, f1, f2, f3, f4, f5⟩ := hf it (List.mem_singleton.mpr rfl)
    obtain ⟨_, g1, _, es2, ep2, g2, g3, ent⟩ := lockedT I hd
    obtain ⟨rfl, rfl⟩ := dict_ep hod g2
    exact DVw.itm_end (I.ok.hd hc) hit g1 g2 g3 (Array.getElem?_eq_none (by rw [g3]; exact hi)) fun h1 eb => ⟨rfl, I.turned (t' := s.toks) (fun b ob hb e => eb b ob hb e) f0 f1 f3 f4 f5⟩
end
def iItT (td : TE) : TI := fun σ H R => td σ H fun x H1 => ∃ d o kvs, x = .ref d ∧ H1 d = some (.frz o (.dT kvs)) ∧ R (ItT d o kvs) H1
section
variable {X : Cx} {e : Expr} {td : TE} {apos cpos : Pos}
theorem pi_T {elts : List Expr} {kk : Nat} {tpos : Pos} (he : PE X e td) (hbase : attributeBase e "items" X.env (eval e X.env) = eval e X.env := by rfl) (hline : (apos.endLine == cpos.line) = true := by rfl) :
    PI X (.Tuple elts kk tpos) (.Call (.Attribute e "items" apos) [] [] cpos) (iItT td) := by
  refine ⟨fun pins s σ H R I h => wpAny_Call_method (T := "dict") (id := "dict.items") hbase rfl hline F.plainAttrs_dict F.slot_dict_items F.type_dict_items (thn (he.run pins s σ H _ I h) fun u s1 ⟨x, H1, I1, rx, d, o, kvs, ex, hd, q⟩ => ?_)⟩
  subst ex
  obtain rfl : u = Value.ref d := rx
  obtain ⟨hs, g1, gx, es, ep, g2, g3, ent⟩ := lockedT I1 hd
  have ty : s1.TypeIs (.ref d) "dict" := ⟨o, g1, gx.1⟩
  have raw : s1.heap.DictRaw d es ep := ⟨o, g1, gx, g2⟩
  have J : Inv X pins σ H1 { s1 with heap := s1.heap.push (DSub.viewOb "dict_items" d) } := I1.kept (t' := s1.toks) fun b ob q => Heap.get?_push_of_some _ q
  refine ⟨ty, ?_, ?_⟩
  · intro a ea
    cases ea
    exact ⟨o, g1, by first | exact gx.2 | exact gx.2.1⟩
  · show wpAny _ _ (callWith cpos (.builtin "dict.items") [.ref d] [] []) _ X.xe s1
    refine method_meetsIn F.slot_dict_items F.entry_dict_items rfl (PySem.evalArgs_none ⟨rfl, ty, F.args_dict_items_1 _, _, meets_dict_items_raw d hs, ⟨es, ep, raw⟩, ?_⟩)
    refine DSub.iter_itms (Heap.get?_push_size _ rfl) (Heap.get?_push_of_some _ g1) g2 (pi_one (tk := s1.toks) J _ (turn_T _ g2) ⟨.none, .none, ?_⟩ q)
    rw [← g3]
    exact Heap.get?_push_size _ rfl
end
end Dg
namespace Dg
open PySem PySem.Spec L2
open PyProof.Rows (args_cons args_nil callWith_builtin1 callWith_type1 IntsAre Call_)
section
variable {X : Cx}
structure WalkN (J : It) (n : Nat) (item : Nat → D → Prop) (Ok : Gp → Prop) (F1 : Fz) (H1 : Hp) : Prop where
  go : ∀ i F H G, i < n → Ext F1 H1 F H → Hg F H G → Ok G → J.go i H
  stop : ∀ F H G, Ext F1 H1 F H → Hg F H G → Ok G → J.stop n H
  yld : ∀ i F H G x H', i < n → Ext F1 H1 F H → Hg F H G → Ok G → J.yld i H x H' → Ext F H F H' ∧ Hg F H' G ∧ ∃ d, item i d ∧ Is F H' d x
theorem forN_ok {J : It} {n : Nat} {item : Nat → D → Prop} {Ok : Gp → Prop} {F1 : Fz} {H1 : Hp} (w : WalkN J n item Ok F1 H1) {g : DG} {tb : DS} {E : L2.Ends} {E' : DEnds} {s : DSt} {σ : St} {G : Gp} (hs : IsS F1 H1 s σ) (hg : Hg F1 H1 G) (h : dForC n item Ok g tb E' s G) (k : Ek F1 H1 E E') :
    ∃ W : Nat → Nat → St → Hp → Prop, (∃ m, W 0 m σ H1) ∧ ∀ i m σ H, W i m σ H →
      (J.stop i H ∧ E.nx σ H) ∨ (J.go i H ∧ ∃ N : St → Hp → Prop, (∀ σ' H', N σ' H' → ∃ m', m' < m ∧ W (i + 1) m' σ' H') ∧ ∀ x H', J.yld i H x H' → lG g x σ H' fun σ2 H2 => lS tb { E with nx := N, ct := N, bk := E.nx } σ2 H2) := by
  obtain ⟨Iv, h0, hok, hst, hd⟩ := h
  refine ⟨fun i m σ H => m = n - i ∧ i ≤ n ∧ ∃ F s G, Ext F1 H1 F H ∧ IsS F H s σ ∧ Hg F H G ∧ Iv i s G, ⟨n, by simp, Nat.zero_le _, F1, s, G, Ext.refl F1 H1, hs, hg, h0⟩, ?_⟩
  rintro i m σ' H' ⟨rfl, hi, F, s', G', ex, is', hg', iv⟩
  by_cases hlt : i < n
  · refine .inr ⟨w.go i F H' G' hlt ex hg' (hok i _ _ hi iv), fun σ2 H2 => ∃ F2 s2 G2, Ext F1 H1 F2 H2 ∧ IsS F2 H2 s2 σ2 ∧ Hg F2 H2 G2 ∧ Iv (i + 1) s2 G2, fun σ2 H2 z => ⟨n - (i + 1), by omega, rfl, hlt, z⟩, fun x H2 y => ?_⟩
    obtain ⟨ex2, hg2, d, hit, hx⟩ := w.yld i F H' G' x H2 hlt ex hg' (hok i _ _ hi iv) y
    refine ⟨F, s', G', d, _, is'.mono ex2, hg2, hx, hst i d s' G' hlt hit iv, fun σ3 H3 F3 s3 G3 e3 i3 g3 q3 => ?_⟩
    have nx : Ks F3 H3 (fun σ2 H2 => ∃ F2 s2 G2, Ext F1 H1 F2 H2 ∧ IsS F2 H2 s2 σ2 ∧ Hg F2 H2 G2 ∧ Iv (i + 1) s2 G2) (vN (Iv (i + 1))) :=
      Ks.vN fun σ4 H4 F4 s4 G4 e4 i4 g4 q4 => ⟨F4, s4, G4, ((ex.trans ex2).trans e3).trans e4, i4, g4, q4⟩
    exact lS_b i3 g3 q3 ⟨nx, k.rt.step ((ex.trans ex2).trans e3), k.nx.step ((ex.trans ex2).trans e3), nx⟩
  · have e : i = n := by omega
    subst e
    exact .inl ⟨w.stop F H' G' ex hg' (hok i _ _ hi iv), k.nx σ' H' F s' G' ex is' hg' (hd s' G' iv)⟩
def kD : Key → D
  | .inl n => .int n
  | .inr x => .str x
theorem isL_keys {F : Fz} {H : Hp} : ∀ ks : List Key, IsL F H (ks.map kD) (ks.map kV)
  | [] => IsL.nil
  | .inl n :: ks => IsL.cons (d := .int n) (is_int.mpr rfl) (isL_keys ks)
  | .inr x :: ks => IsL.cons (d := .str x) (is_str.mpr rfl) (isL_keys ks)
theorem isP_get {κ : Type} {F : Fz} {H : Hp} : ∀ {kds : List (κ × D)} {kvs : List (κ × V)} {i : Nat} {k : κ} {v : V}, IsP F H kds kvs → kvs[i]? = some (k, v) → ∃ d, kds[i]? = some (k, d) ∧ Is F H d v
  | _, _, i, k, v, .nil, e => by cases i <;> cases e
  | _, _, 0, k, v, .cons (a := a) (b := b) r t, e => by
    have e : b = (k, v) := by simpa using e
    subst e
    have r1 : a.1 = k := r.1
    exact ⟨a.2, by rw [← r1]; rfl, r.2⟩
  | _, _, i + 1, k, v, .cons r t, e => by
    obtain ⟨d, h1, h2⟩ := isP_get (i := i) t (by simpa using e)
    exact ⟨d, by simpa using h1, h2⟩
/-- what d.items() tells, tuple keys -/
def itemT (kvs : List (List Key × D)) (i : Nat) (d : D) : Prop := ∃ k v, kvs[i]? = some (k, v) ∧ d = .tup [.tup (k.map kD), v]
theorem walk_T2 {F1 : Fz} {H1 : Hp} {p : Addr} {od : Obj} {vs : List (List Key × V)} {kvs : List (List Key × D)} {z : HO} (hz : z = .frz od (.dT vs)) (hl : IsP F1 H1 kvs vs) : WalkN (ItT p od vs) kvs.length (itemT kvs) (fun G => G p = some (.sm (.lkT z kvs))) F1 H1 := by
  have key : ∀ F H G, Hg F H G → G p = some (.sm (.lkT z kvs)) → H p = some (.frz od (.dT vs)) := fun F H G hg hok => by
    obtain ⟨y, hy, h0, _⟩ := hg.get hok
    rw [hy, h0, hz]
  have hlen := hl.length
  refine ⟨fun i F H G hi ex hg hok => ⟨key F H G hg hok, by omega⟩, fun F H G ex hg hok => ⟨key F H G hg hok, by omega⟩, fun i F H G v H' hi ex hg hok y => ?_⟩
  obtain ⟨T, k, u, q, hk, rfl, hT, hq, rfl⟩ := y
  obtain ⟨d, h1, h2⟩ := isP_get hl hk
  obtain ⟨e1, e2, e3⟩ := fin_tup (ds := [.tup (k.map kD), d]) hg (IsL.cons (is_tup.mpr ⟨q, _, rfl, hq, isL_keys k⟩) (IsL.cons (h2.mono ex) IsL.nil)) hT
  exact ⟨e1, e2, _, ⟨k, d, h1, rfl⟩, e3⟩
/-- for a, b in d.items(), d locked -/
def dForI (tl : DE) (g : DG) (tb : DS) : DS := fun E s G => tl s G fun x G1 => ∃ p z kvs, x = .ref p ∧ G1 p = some (.sm (.lkT z kvs)) ∧ dForC kvs.length (itemT kvs) (fun G => G p = some (.sm (.lkT z kvs))) g tb E s G1
theorem qs_forI {elts : List Expr} {kk : Nat} {tpos apos cpos : Pos} {l : Expr} {body : List Stmt} {pos : Pos} {tl : DE} {g : DG} {tb : DS} (hp : PassesOwn (model X.prog X.w) X.A X.env X.xe) (hc : X.calm = true) (hl : QE X l tl) (hg : QG X (.Tuple elts kk tpos) g) (hb : QSs X body tb)
    (hbase : attributeBase l "items" X.env (eval l X.env) = eval l X.env := by rfl) (hline : (apos.endLine == cpos.line) = true := by rfl) (hs : ∀ x, foldedSetIterable (.Call (.Attribute l "items" apos) [] [] cpos) X.env x = pure x := by intro _; rfl) :
    QS X (.For (.Tuple elts kk tpos) (.Call (.Attribute l "items" apos) [] [] cpos) body [] pos) (dForI tl g tb) := PS.weak (ps_for hp hc (pi_T hl hbase hline) hg hb hs) fun E σ H h => by
  obtain ⟨F, s, G, E', hs, hg, h, k⟩ := h
  refine lE_b hs hg h fun v H1 F1 d G1 e1 s1 g1 i1 ⟨p, z, kvs, hx, hp, h1⟩ => ?_
  subst hx
  obtain ⟨y, hy, h0, od, vv, h3, h4⟩ := g1.get hp
  subst h0
  subst h3
  exact ⟨p, od, vv, is_ref.mp i1, hy, forN_ok (walk_T2 rfl h4) s1 g1 h1 (k.step e1)⟩
/-- a dict is locked while a statement walks it -/
def dLockT (t : DS) : DS := fun E s G => ∃ p kvs, G p = some (.sm (.dT kvs)) ∧ ∀ z, t ⟨fun s' G' => G' p = some (.sm (.lkT z kvs)) ∧ E.nx s' (ud G' p (.sm (.dT kvs))), fun v G' => G' p = some (.sm (.lkT z kvs)) ∧ E.rt v (ud G' p (.sm (.dT kvs))), fun s' G' => G' p = some (.sm (.lkT z kvs)) ∧ E.bk s' (ud G' p (.sm (.dT kvs))), fun s' G' => G' p = some (.sm (.lkT z kvs)) ∧ E.ct s' (ud G' p (.sm (.dT kvs)))⟩ s (ud G p (.sm (.lkT z kvs)))
theorem qs_lockT {st : Stmt} {t : DS} (h : QS X st t) : QS X st (dLockT t) := PS.weak (ps_lock h) fun E σ H z => by
  obtain ⟨F, s, G, E', hs, hg, ⟨p, kvs, hp, h⟩, k⟩ := z
  obtain ⟨z, hz, vs, rfl, hl⟩ := hg.get hp
  refine ⟨p, .dT vs, hz, trivial, fun od => ?_⟩
  have e5 := ext_own (z := .frz od (.dT vs)) hg hp
  have g5 := hg.set (o' := .lkT (.frz od (.dT vs)) kvs) (z := .frz od (.dT vs)) hp ⟨rfl, od, vs, rfl, hl.mono e5⟩
  have back : ∀ F1 H1 G1, Hg F1 H1 G1 → G1 p = some (.sm (.lkT (.frz od (.dT vs)) kvs)) → H1 p = some (.frz od (.dT vs)) ∧ Ext F1 H1 F1 (upd H1 p (.dT vs)) ∧ Hg F1 (upd H1 p (.dT vs)) (ud G1 p (.sm (.dT kvs))) := fun F1 H1 G1 g1 hq => by
    obtain ⟨z2, hz2, rfl, o2, vs2, h3, h4⟩ := g1.get hq
    have h5 : vs = vs2 := HO.dT.inj (HO.frz.inj h3).2
    subst h5
    have e6 := ext_own (z := .dT vs) g1 hq
    exact ⟨hz2, e6, g1.set (o' := .dT kvs) hq ⟨_, rfl, h4.mono e6⟩⟩
  refine lS_b (hs.mono e5) g5 (h _) ⟨?_, ?_, ?_, ?_⟩
  · rintro σ' H' F' s' G' e i g ⟨hq, q⟩
    obtain ⟨a, b, c⟩ := back F' H' G' g hq
    exact ⟨a, k.nx σ' _ F' s' _ ((e5.trans e).trans b) (i.mono b) c q⟩
  · rintro v H' F' d G' e g i ⟨hq, q⟩
    obtain ⟨a, b, c⟩ := back F' H' G' g hq
    exact ⟨a, k.rt v _ F' d _ ((e5.trans e).trans b) c (i.mono b) q⟩
  · rintro σ' H' F' s' G' e i g ⟨hq, q⟩
    obtain ⟨a, b, c⟩ := back F' H' G' g hq
    exact ⟨a, k.bk σ' _ F' s' _ ((e5.trans e).trans b) (i.mono b) c q⟩
  · rintro σ' H' F' s' G' e i g ⟨hq, q⟩
    obtain ⟨a, b, c⟩ := back F' H' G' g hq
    exact ⟨a, k.ct σ' _ F' s' _ ((e5.trans e).trans b) (i.mono b) c q⟩
/-- of an owned list: n times -/
def eRep : DR2 := fun x y G Q => ∃ ds k, lstOf G x = some ds ∧ y = .int k ∧ -1000 ≤ k ∧ k ≤ 1000 ∧ ds.length ≤ 100 ∧ ∀ p, G p = none → Q (.ref p) (ud G p (.sm (.lst (List.replicate k.toNat ds).flatten)))
theorem isL_rep {F : Fz} {H : Hp} {ds : List D} {vs : List V} (h : IsL F H ds vs) : ∀ n : Nat, IsL F H (List.replicate n ds).flatten (List.replicate n vs).flatten
  | 0 => IsL.nil
  | n + 1 => by
    rw [List.replicate_succ, List.replicate_succ, List.flatten_cons, List.flatten_cons]
    exact h.append (isL_rep h n)
theorem sr_rep : SR rRep eRep := by
  rintro F H G x y dx dy Q Q' hG ix iy ⟨ds, j, hl, rfl, h0, h1, h2, q⟩ k
  obtain ⟨a, vs, rfl, h3, h4⟩ := lstOf_ok hG ix hl
  refine ⟨a, j, vs, rfl, is_int.mp iy, h3, by omega, by omega, ?_, k.newL hG (isL_rep h4 _) q⟩
  rw [h4.length]
  exact sz_ok (Nat.le_trans (Nat.mul_le_mul h2 (show j.toNat ≤ 1000 by omega)) (by decide))
theorem notMem2 {a b c : Nat} (h1 : a ≠ b) (h2 : a ≠ c) : a ∉ [b, c] := by simp [h1, h2]
abbrev newSet (w : World) : Obj := { cls := .type "set", dict := none, data := .set #[] 0 (.fresh 0 0 (!w.params.followText "set-order")) }
theorem set_ints {prog : Program} {w : World} {A : Around} {E : Value → Shared → Prop} {s : Shared} {l : Addr} {items : Array Value} (ns : List Int) {Q : Value → Shared → Prop} (hh : A.handled = none) (hl : s.heap.IsList l items) (hit : IntsAre items.toList ns) (hb : ns.length + 1 < scanBound)
    (h : ∀ (h1 : Heap) (tk c : Nat), SetR w h1 s.heap.objs.size (fun j => decide (j ∈ ns)) c → c ≤ ns.length → (∀ b o, s.heap.get? b = some o → h1.get? b = some o) → Q (.ref s.heap.objs.size) { s with heap := h1, toks := tk }) :
    wpAny (model prog w) A (call (.type "set") [.ref l]) Q E s := by
  have isz : items.size = ns.length := by rw [← Array.length_toList]; exact PyProof.Rows.IntsAre.length hit
  obtain ⟨_, _, m1⟩ := F.called_set.mro
  have m2 := F.called_set.made
  have m3 := F.called_set.sub
  have m4 := F.called_set.notType
  have m5 := F.called_set.canCreate
  have m6 := F.typeCall_set_1 (.ref l)
  refine wpAny_call (codeAny_of_tree (show wpAny _ _ (callAny (.type "set") _) _ _ _ from wpAny_pure ⟨Code.quiet_builtin _ (by decide +kernel), codeAny_builtin F.entry_type_call ?_⟩))
  rw [Around.under_plain (weight_type_call_type "set" [.ref l] []) rfl]
  repeat (any_goals (first | assumption | wp_step))
  refine codeAny_mono (code_set_led1 (.ref l) (E := E) (Q₁ := fun y t => y = .ref s.heap.objs.size ∧ t = { s with heap := s.heap.push (newSet w) }) ⟨rfl, rfl⟩) fun res t ht => ?_
  rcases res with e | fl
  · exact ht
  · cases fl with
    | ret y =>
      obtain ⟨rfl, rfl⟩ := ht
      have gS : (s.heap.push (newSet w)).get? s.heap.objs.size = some (newSet w) := Heap.get?_push_size _ rfl
      have tS : Shared.TypeIs { s with heap := s.heap.push (newSet w) } (.ref s.heap.objs.size) "set" := ⟨_, gS, rfl⟩
      have m7 := F.called_set.init.lookup
      have m8 := F.called_set.init.bind (.ref s.heap.objs.size)
      repeat (any_goals (first | assumption | wp_step))
      refine codeAny_mono (codeAny_call_builtin (R := wants (fun y t => y = .none ∧ ∃ h1 tk c, t = { s with heap := h1, toks := tk } ∧ SetR w h1 s.heap.objs.size (fun j => decide (j ∈ ns)) c ∧ c ≤ ns.length ∧ ∀ b o, s.heap.get? b = some o → h1.get? b = some o) E) F.called_set.init.plain F.entry_set_init (check_set_init_1 tS ?_)) fun res2 t2 ht2 => ?_
      · obtain ⟨⟨c1, c2, c3, c4⟩, gl, e1, nl, e2⟩ := hl
        dsimp only at e1 e2
        subst e1
        subst e2
        have gl2 : (s.heap.push (newSet w)).get? l = some ⟨.type "list", c2, .seq items nl, c4⟩ := Heap.get?_push_of_some _ gl
        have n1 := F.sub_list_set
        have n2 := F.sub_list_frozenset
        have n3 : (Value.type "list" == Value.type "dict") = false := by decide
        have il : (s.heap.push (newSet w)).IsList l items := ⟨_, gl2, rfl, nl, rfl⟩
        have lt : l < s.heap.objs.size := Heap.lt_size gl
        have sz : (s.heap.push (newSet w)).objs.size = s.heap.objs.size + 1 := Heap.size_push ..
        have vals : ∀ (i : Nat) (v : Value), items[i]? = some v → ∃ k t, ns[i]? = some k ∧ v = .int k t := fun i v hv => by
          have hi : i < ns.length := isz ▸ (Array.getElem?_eq_some_iff.mp hv).1
          obtain ⟨t, e⟩ := PyProof.Rows.IntsAre.int_at hit i v (by rw [Array.getElem?_toList]; exact hv)
          rw [List.getD_eq_getElem?_getD, List.getElem?_eq_getElem hi] at e
          exact ⟨ns[i], t, List.getElem?_eq_getElem hi, e⟩
        unfold Builtin.«set.__init__» noKeywords Builtin.Frozenset.updateFrom
        generalize hp : pyIter = pp
        wp_walk
        subst hp
        refine wpAny_pyIter_list il (wpAny_bind (wpAny_runValue ?_))
        have h3 : A.in1.in1.in1.handled = none := by simp [hh]
        refine set_update_ints ((Walks.list h3 _ l (by rw [sz]; exact Nat.ne_of_lt (Nat.lt_succ_of_lt lt)) items).toS) s.heap.objs.size (by rw [sz]; exact notMem2 (Nat.ne_of_lt (Nat.lt_succ_self _)) (Nat.ne_of_gt lt)) ns isz hb vals (items.size - 0) 0 _ (by omega) (Nat.zero_le _) ⟨⟨_, Heap.get?_push_size _ rfl, rfl, rfl⟩, il.push _⟩ ⟨0, Nat.le_refl 0, setR_new_at (Heap.get?_push_of_some _ gS)⟩ fun t c mv hc hS => ?_
        obtain ⟨h1, y1, y2, y3, y4⟩ := t
        obtain rfl : y1 = s.gens := mv.gens
        obtain rfl : y2 = s.drawn := mv.drawn
        obtain rfl : y4 = s.os := mv.os
        refine wpAny_pure ?_
        show wpAny _ _ (ret Value.none) _ _ _
        refine wpAny_pure ⟨rfl, h1, y3, c, rfl, hS, isz ▸ hc, fun b o e => ?_⟩
        have lb : b < s.heap.objs.size := Heap.lt_size e
        exact mv.heap b o (by rw [sz]; exact notMem2 (Nat.ne_of_lt lb) (Nat.ne_of_lt (Nat.lt_succ_of_lt lb))) (Heap.get?_push_of_some _ (Heap.get?_push_of_some _ e))
      · rcases res2 with e | fl
        · exact ht2
        · cases fl with
          | ret y =>
            obtain ⟨rfl, h1, tk, c, rfl, q1, q2, q3⟩ := ht2
            repeat (any_goals (first | assumption | wp_step))
            exact h _ _ _ q1 q2 q3
          | _ => exact ht2.elim
    | _ => exact ht.elim
def tSortSet (K : PySem.W.Frag) (ta : TE) : TE := fun σ H Q => ta σ H fun x H1 => ∃ (l : Addr) (ns : List Int), x = V.ref l ∧ SqL K H1 l (ns.map V.int) ∧ ns.length < 60 ∧ ∀ (ms : List Int) (p : Addr), ms.Pairwise (· < ·) → (∀ k, k ∈ ms ↔ k ∈ ns) → H1 p = none → Q (.ref p) (upd H1 p (.lst (ms.map V.int)))
theorem pe_sortSet {a : Expr} {ta : TE} {p p2 q pos : Pos} (hc : X.calm = true) (hg : Gl X "sorted") (hm : X.mg "sorted" = none) (hg2 : Gl X "set") (hm2 : X.mg "set" = none) (ha : PE X a ta) (na : starEach [a] X.env = (false, eval a X.env) :: starEach [] X.env := by rfl) :
    PE X (.Call (.Name "sorted" p) [.Call (.Name "set" p2) [a] [] q] [] pos) (tSortSet X.K ta) := by
  refine ⟨fun pins s σ H Q I h => Call_ (ld_blt I hg hm PyProof.Rows.boot_sorted (callWith_builtin1 (args_cons (Call_ (ld_blt I hg2 hm2 PyProof.Rows.boot_set (callWith_type1 (args_cons (thn (ha.run pins s σ H _ I h) fun v s1 ⟨x, H1, I1, r1, l, ns, ex, hq, hn, q1⟩ => args_nil ?_) na) na rfl))) rfl) rfl rfl))⟩
  subst ex
  cases r1
  obtain ⟨its, r, pl, hz⟩ := I1.list hq
  refine set_ints ns (I1.ok.hd hc) pl.isList (by simpa using r.ints) (by unfold scanBound; omega) fun h1 tk c R hcl hk => args_nil ?_
  have I2 : Inv X pins σ H1 { s1 with heap := h1, toks := tk } := I1.kept hk
  have R2 : SetR X.w ({ s1 with heap := h1, toks := tk } : Shared).heap s1.heap.objs.size (fun j => decide (j ∈ ns)) c := R
  generalize ({ s1 with heap := h1, toks := tk } : Shared) = s2 at I2 R2 ⊢
  refine sorted_set R2 (I1.ok.hd hc) (by omega) fun t p1 out c1 ms k g o hp hgt hi hs hmm hl => ?_
  have hlen : (ms.map V.int).length ≤ sizeLine := by rw [List.length_map, hl, sizeLine_eq]; omega
  have hnone : H1 p1 = none := I2.hok.fresh hp
  have J : Inv X pins σ (upd H1 p1 (.lst (ms.map V.int))) { s2 with heap := t.heap, gens := t.gens, drawn := t.drawn, toks := t.toks } :=
    I2.call (ch := []) (Un.laid k hp hnone) (I2.hok.laid k hp ⟨hlen, out.toList, c1, vals_of_ints hi, hgt⟩) (by rw [g]; exact I2.bare) (fun _ z => nomatch z)
  have e : t = { s2 with heap := t.heap, gens := t.gens, drawn := t.drawn, toks := t.toks } := by
    cases t
    cases s2
    cases o
    rfl
  rw [e]
  exact ⟨.ref p1, _, J, rfl, q1 ms p1 hs (fun k => by rw [hmm k, decide_eq_true_eq]) hnone⟩
def dSortSet (ta : DE) : DE := fun s G Q => ta s G fun x G1 => ∃ ns : List Int, lstOf G1 x = some (ns.map D.int) ∧ ns.length < 60 ∧ ∀ (ms : List Int) (p : Addr), ms.Pairwise (· < ·) → (∀ k, k ∈ ms ↔ k ∈ ns) → G1 p = none → Q (.ref p) (ud G1 p (.sm (.lst (ms.map D.int))))
theorem qe_sortSet {a : Expr} {ta : DE} {p p2 q pos : Pos} (hc : X.calm = true) (hg : Gl X "sorted") (hm : X.mg "sorted" = none) (hg2 : Gl X "set") (hm2 : X.mg "set" = none) (ha : QE X a ta) (na : starEach [a] X.env = (false, eval a X.env) :: starEach [] X.env := by rfl) :
    QE X (.Call (.Name "sorted" p) [.Call (.Name "set" p2) [a] [] q] [] pos) (dSortSet ta) := PE.weak (pe_sortSet hc hg hm hg2 hm2 ha na) fun σ H Q h => by
  obtain ⟨F, s, G, Q', hs, hg, h, k⟩ := h
  refine lE_b hs hg h fun v H1 F1 d G1 e1 s1 g1 i1 ⟨ns, hl, hn, q⟩ => ?_
  obtain ⟨a, vs, rfl, h2, h3⟩ := lstOf_ok g1 i1 hl
  rw [h3.ints] at h2
  refine ⟨a, ns, rfl, .inl (.inl h2), hn, fun ms p h4 h5 hp => ?_⟩
  exact (k.step e1).newL g1 (IsL.of_ints (ns := ms)) (fun p hp => q ms p h4 h5 hp) p hp
end
end Dg
namespace Dg
open PySem PySem.Spec L2
open Mg (Lk Kn NS C2 Rc)
open Classical in
noncomputable def nearF (n : Int) (ls : List Lk) (c : Option Int) (u : Int) : List Int := (Mg.rangeI n.toNat).filter fun v => decide (Rc (Mg.eGet ls) c u v)
def sp_boxes_from (K : PySem.W.Frag) : DSp := fun ds G Q => ∃ a st u c, ds = [.ref a, .int u, optD c] ∧ NetV K G a st ∧ WebOk st.n st.ls ∧ 0 ≤ u ∧ u < st.n ∧ c ≠ some u ∧ ∀ fs : List Int, fs.length ≤ 6 → (∀ v, v ∈ fs ↔ Rc (Mg.eGet st.ls) c u v) → Q (.lst (fs.map D.int)) G
def sp_leads (K : PySem.W.Frag) : DSp := fun ds G Q => ∃ a st b d h, ds = [.ref a, .int b, .int d, .int h] ∧ NetV K G a st ∧ WebOk st.n st.ls ∧ 0 ≤ h ∧ h < st.spots.length ∧ ∀ r : Bool, (r = true ↔ Leads st b d h) → Q (.bl r) G
open Classical in
noncomputable def wrongP (st : NS) (t b : Int) (q : Int × (Int × Int)) : Option (Int × (Int × Int)) := if t ≤ q.2.2 + st.age ∧ ¬ Leads st b q.2.1 q.1 then some (b, (q.1, q.2.1)) else none
theorem wrongP_yes {st : NS} {t b : Int} {q : Int × (Int × Int)} (h1 : t ≤ q.2.2 + st.age) (h2 : ¬ Leads st b q.2.1 q.1) : wrongP st t b q = some (b, (q.1, q.2.1)) := if_pos ⟨h1, h2⟩
theorem wrongP_no {st : NS} {t b : Int} {q : Int × (Int × Int)} (h : ¬ (t ≤ q.2.2 + st.age ∧ ¬ Leads st b q.2.1 q.1)) : wrongP st t b q = none := if_neg h
theorem wrongP_some {st : NS} {t b : Int} {q r : Int × (Int × Int)} (h : wrongP st t b q = some r) : (t ≤ q.2.2 + st.age ∧ ¬ Leads st b q.2.1 q.1) ∧ r = (b, (q.1, q.2.1)) := by
  by_cases c : t ≤ q.2.2 + st.age ∧ ¬ Leads st b q.2.1 q.1
  · rw [wrongP_yes c.1 c.2] at h
    exact ⟨c, (Option.some.inj h).symm⟩
  · rw [wrongP_no c] at h
    cases h
noncomputable def wrongAt (st : NS) (t b : Int) : List (Int × (Int × Int)) := (Mg.srt (Mg.knAt st b)).filterMap (wrongP st t b)
noncomputable def wrongF (st : NS) (t : Int) : List (Int × (Int × Int)) := (List.range st.n.toNat).flatMap fun (b : Nat) => wrongAt st t (b : Int)
def sp_wrong (K : PySem.W.Frag) : DSp := fun ds G Q => ∃ a st t, ds = [.ref a, .int t] ∧ NetV K G a st ∧ NOk st ∧ st.now ≤ t ∧ t ≤ 1000 ∧ ∀ p, G p = none → Q (.ref p) (ud G p (.sm (.lst ((wrongF st t).map triD))))
/-- the times behind which each is wrong no more, and the last deed's -/
noncomputable def untilL (st : NS) : List Int := ((wrongF st st.now).map fun q => ((Mg.kGet (Mg.knAt st q.1) q.2.1).getD (0, 0)).2 + st.age + 1) ++ [st.now]
def IsUntil (st : NS) (m : Int) : Prop := m ∈ untilL st ∧ ∀ y ∈ untilL st, y ≤ m
def sp_until (K : PySem.W.Frag) : DSp := fun ds G Q => ∃ a st, ds = [.ref a] ∧ NetV K G a st ∧ NOk st ∧ ∀ m, IsUntil st m → Q (.int m) G
theorem len_boxes_from {K : PySem.W.Frag} : ∀ ds G Q, sp_boxes_from K ds G Q → ds.length = 3 := by rintro _ _ _ ⟨_, _, _, _, rfl, _⟩; rfl
theorem len_leads {K : PySem.W.Frag} : ∀ ds G Q, sp_leads K ds G Q → ds.length = 4 := by rintro _ _ _ ⟨_, _, _, _, _, rfl, _⟩; rfl
theorem len_wrong {K : PySem.W.Frag} : ∀ ds G Q, sp_wrong K ds G Q → ds.length = 2 := by rintro _ _ _ ⟨_, _, _, rfl, _⟩; rfl
theorem len_until {K : PySem.W.Frag} : ∀ ds G Q, sp_until K ds G Q → ds.length = 1 := by rintro _ _ _ ⟨_, _, rfl, _⟩; rfl
def nearD (xs : List Int) : D := .lst (xs.map D.int)
def sp_L_joined (K : PySem.W.Frag) : DSp := fun ds G Q => ∃ n ls c, ds = [webD n ls, optD c] ∧ WebOk n ls ∧ Q (.lst ((Mg.rangeI n.toNat).map fun u => nearD (nearF n ls c u))) G
theorem len_L_joined {K : PySem.W.Frag} : ∀ ds G Q, sp_L_joined K ds G Q → ds.length = 2 := by rintro _ _ _ ⟨_, _, _, rfl, _⟩; rfl
end Dg
namespace Dg
open PySem PySem.Spec L2
/-- boxes_from: slots 0=net 1=begin 2=closed 3=found 4=left 5=here 6=place 7=other -/
def b_boxes_from (K : PySem.W.Frag) : DS :=
    (dSeq (dAsg (dLst (dCons (dVar 1) dNil)) (hName 3))
    (dSeq (dAsg (dLst (dCons (dVar 1) dNil)) (hName 4))
    (dSeq (dWhile (dTest (dOp eNeD (dVar 4) (dFz (dLst dNil)))) (dSeq (dAsg (dBM0 "list" mPop (dVar 4)) (hName 5))
    (dLockT (dForI (dFld (cN K) "ends" (dVar 0)) (hTup 2 (hCons (hName 6) (hCons (hName 7) hNil))) (dIfS (dAnd (dTest (dOp eEq (dOp eIxT (dVar 6) (dC (.int 0))) (dVar 5))) (dAnd (dTest (dOp (eInF true) (dOp eIxT (dVar 7) (dC (.int 0))) (dVar 3))) (dTest (dOp eNeD (dOp eIxT (dVar 7) (dC (.int 0))) (dVar 2))))) (dSeq (dDrop (dBM "list" mAppend (dVar 3) (dCons (dOp eIxT (dVar 7) (dC (.int 0))) dNil)))
    (dDrop (dBM "list" mAppend (dVar 4) (dCons (dOp eIxT (dVar 7) (dC (.int 0))) dNil)))) dNext)))))
    (dRet (dVar 3)))))
/-- leads: slots 0=net 1=box 2=door 3=host 4=spot -/
def b_leads (K : PySem.W.Frag) : DS :=
    (dSeq (dAsg (dOp eIxL (dFld (cN K) "spots" (dVar 0)) (dVar 3)) (hName 4))
    (dSeq (dIfS (dTest (dDIn true (dTup (dCons (dVar 1) (dCons (dVar 2) dNil))) (dFld (cN K) "ends" (dVar 0)))) (dRet (dOp eEqD (dVar 4) (dTup (dCons (dVar 1) (dCons (dVar 2) dNil))))) dNext)
    (dRet (dOp (eInF false) (dOp eIxT (dVar 4) (dC (.int 0))) (dCall (sp_boxes_from K) (dCons (dVar 0) (dCons (dOp eIxT (dDGet (dFld (cN K) "ends" (dVar 0)) (dTup (dCons (dVar 1) (dCons (dVar 2) dNil)))) (dC (.int 0))) (dCons (dVar 1) dNil))))))))
/-- wrong: slots 0=net 1=time 2=found 3=box 4=host 5=door -/
def b_wrong (K : PySem.W.Frag) : DS :=
    (dSeq (dDrop (dMeth (cN K) "need_time" (sp_N_need_time K) (dVar 0) (dCons (dVar 1) dNil)))
    (dSeq (dAsg (dLst dNil) (hName 2))
    (dSeq (dForR1 (dCons (dOp eIxT (dFld (cN K) "web" (dVar 0)) (dC (.int 0))) dNil) (hName 3) (dForL (dFz (dCB cSortK (dCons (dOp eIxL (dFld (cN K) "known" (dVar 0)) (dVar 3)) dNil))) (hName 4) (dSeq (dAsg (dMeth (cN K) "door_of" (sp_N_door_of K) (dVar 0) (dCons (dVar 3) (dCons (dVar 4) (dCons (dVar 1) dNil)))) (hName 5))
    (dIfS (dAnd (dTest (dNotN (dVar 5))) (dNot (dTest (dCall (sp_leads K) (dCons (dVar 0) (dCons (dVar 3) (dCons (dVar 5) (dCons (dVar 4) dNil)))))))) (dDrop (dBM "list" mAppend (dVar 2) (dCons (dTup (dCons (dVar 3) (dCons (dVar 4) (dCons (dVar 5) dNil)))) dNil))) dNext))))
    (dRet (dVar 2)))))
/-- until: slots 0=net 1=some 2=box 3=host 4=door -/
def b_until (K : PySem.W.Frag) : DS :=
    (dSeq (dAsg (dLcL (dCall (sp_wrong K) (dCons (dVar 0) (dCons (dFld (cN K) "now" (dVar 0)) dNil))) (.tp [2, 3, 4]) dYes (dOp eAdd (dOp eAdd (dOp eIxT (dDGet (dOp eIxL (dFld (cN K) "known" (dVar 0)) (dVar 2)) (dVar 3)) (dC (.int 1))) (dFld (cN K) "age" (dVar 0))) (dC (.int 1))) [2, 3, 4]) (hName 1))
    (dRet (dCB cMaxL (dCons (dFz (dOp eCat (dVar 1) (dFz (dLst (dCons (dFld (cN K) "now" (dVar 0)) dNil))))) dNil))))
/-- _law_joined: slots 0=web_here 1=closed 2=found 3=box 4=turn 5=one 6=door_here 7=other 8=its_door 9=both -/
def b_L_joined (K : PySem.W.Frag) : DS :=
    (dSeq (dAsg (dLcR1 (dCons (dOp eIxT (dVar 0) (dC (.int 0))) dNil) (.nm 3) dYes (dFz (dLst (dCons (dVar 3) dNil))) [3]) (hName 2))
    (dSeq (dForR1 (dCons (dOp eIxT (dVar 0) (dC (.int 0))) dNil) (hName 4) (dForT (dOp eIxT (dVar 0) (dC (.int 1))) (hTup 4 (hCons (hName 5) (hCons (hName 6) (hCons (hName 7) (hCons (hName 8) hNil))))) (dIfS (dTest (dOp (eInF true) (dVar 1) (dTup (dCons (dVar 5) (dCons (dVar 7) dNil))))) (dSeq (dAsg (dFz (dSortSet (dFz (dOp eCat (dOp eIxL (dVar 2) (dVar 5)) (dOp eIxL (dVar 2) (dVar 7)))))) (hName 9))
    (dForL (dVar 9) (hName 3) (dAsg (dVar 9) (hSub (dVar 2) (dVar 3) eSetL)))) dNext)))
    (dRet (dVar 2))))
end Dg
namespace Dg
open PySem PySem.Spec L2
local macro_rules | `(tactic| wtm_at "ne") => `(tactic| first | assumption | (apply Ne.symm; assumption) | (grind [ud, er]))
local macro_rules | `(tactic| wtm_at "lk") => `(tactic| first | (with_reducible assumption) | (with_reducible exact ud_same) | ((with_reducible refine (ud_ne (by wtm_at "ne")).trans ?_); wtm_at "lk"))
local macro_rules | `(tactic| wtm_at "gl") => `(tactic| first | (with_reducible assumption) | (with_reducible exact lst_ref (by wtm_at "lk")) | (with_reducible exact lstOf_new (by assumption) (by assumption)) | (with_unfolding_all exact rfl))
local macro_rules | `(tactic| wtm_at "vl") => `(tactic| first | (with_reducible exact val_ref (by wtm_at "lk")) | (with_unfolding_all exact rfl))
local macro_rules | `(tactic| wtm_at "dk") => `(tactic| with_reducible first | exact dK_own (by wtm_at "lk") | exact dK_lk (by wtm_at "lk") | exact dT_own (by wtm_at "lk"))
local macro_rules | `(tactic| wtm_at "pl") => `(tactic| with_unfolding_all first | exact rfl | exact all_int _ | exact all_P2 _ | assumption)
local macro_rules | `(tactic| wtm_at "nn") => `(tactic| first | omega | decide | (simp only [List.length_cons, List.length_nil, List.length_map, List.length_append]; omega) | grind)
local macro_rules | `(tactic| wtm_at "st") => `(tactic| (simp only [stD, List.map_cons, List.map_nil, List.length_cons, List.length_nil, List.replicate, Nat.reduceAdd, Nat.reduceSub, List.cons_append, List.nil_append]))
local macro_rules | `(tactic| wtm_at "1") => `(tactic| with_reducible first
  | refine w_seq ?_ | refine w_asgN ?_ | refine w_asgS ?_ | refine w_asgT ?_ | refine w_ret ?_ | refine w_drop ?_ | refine w_ifS ?_ | refine w_test ?_ | refine w_next ?_
  | refine w_nx ?_ | refine w_nx0 ?_ | refine w_rt ?_ | refine w_bk ?_ | refine w_ct ?_
  | refine w_bl2 ?_ | refine w_and ?_ | refine w_or ?_ | refine w_not ?_ | refine w_andV ?_ | refine w_orV ?_ | refine w_notV ?_ | refine w_if ?_
  | (apply w_var; (· with_unfolding_all rfl)) | refine w_c ?_ | refine w_op ?_ | refine w_chain ?_ | refine w_nil ?_ | refine w_cons ?_ | refine w_tup ?_ | refine w_lst ?_
  | (apply w_len; (· wtm_at "nn")) | refine w_call ?_ | refine w_cb ?_ | refine w_isN ?_ | refine w_notN ?_ | refine w_fz ?_
  | refine w_add ?_ | refine w_sub ?_ | refine w_lt ?_ | refine w_le ?_ | refine w_gt ?_ | refine w_ge ?_ | (apply w_mod; (· wtm_at "nn")) | (apply w_div; (· wtm_at "nn"); (· wtm_at "nn"))
  | (apply w_eq; (· with_unfolding_all rfl)) | (apply w_ne; (· with_unfolding_all rfl))
  | (apply w_ixT; (· with_unfolding_all rfl)) | (apply w_ixL; (· wtm_at "gl"); (· with_unfolding_all rfl))
  | refine w_lenT ?_ | (apply w_lenL; (· wtm_at "gl")) | refine w_min2 ?_ | refine w_max2 ?_ | refine w_intB ?_ | (apply w_tupleL; (· wtm_at "gl"))
  | refine w_bm ?_ | refine w_bm0 ?_ | (apply w_ty; (· wtm_at "gl"))
  | (apply w_setL; (· wtm_at "lk"); (· with_unfolding_all rfl)) | (apply w_append; (· wtm_at "lk"); (· wtm_at "nn")) | (apply w_extend; (· wtm_at "lk"); (· wtm_at "gl"); (· wtm_at "nn"))
  | refine w_hcons ?_ | refine w_hnil ?_ | refine w_hname ?_ | (apply w_htup; (· with_unfolding_all rfl)) | (apply w_exT; (· with_unfolding_all rfl))
  | refine w_lcR1 ?_ | refine w_lcL ?_ | refine w_lcT ?_ | refine w_forR1 ?_ | refine w_forR2 ?_ | refine w_forL ?_ | refine w_forT ?_ | refine w_yes ?_ | refine w_cnm ?_ | (apply w_ctp; (· with_unfolding_all rfl))
  | (apply w_exL; (· wtm_at "gl")) | refine w_exTu ?_ | (apply w_exI; (· wtm_at "nn")) | (apply w_exI2; (· wtm_at "nn")) | refine w_exII ?_
  | refine w_lcK ?_ | refine w_fld ?_ | refine w_fldS ?_ | refine w_meth ?_ | refine w_make ?_ | (apply w_fldE; (· wtm_at "lk"); (· with_unfolding_all rfl)) | (apply w_fldSE; (· wtm_at "lk"); (· first | exact insF_lt | (with_unfolding_all exact Nat.le_of_ble_eq_true rfl) | wtm_at "nn")) | (apply w_lenD; (· wtm_at "lk"))
  | refine w_disp ?_ | refine w_pnil ?_ | refine w_pcons ?_ | (apply w_dispE; (· wtm_at "lk"); (· with_unfolding_all rfl); (· wtm_at "nn"))
  | refine w_dget ?_ | refine w_din ?_ | refine w_dget1 ?_ | refine w_dput ?_ | refine w_dpop1 ?_ | refine w_lenSet ?_ | refine w_listRng ?_ | refine w_notInRng ?_
  | (apply w_inK; (· wtm_at "dk"); (· with_unfolding_all rfl)) | (apply w_inT; (· wtm_at "dk"); (· with_unfolding_all exact keyT_lit))
  | (apply w_lkK; (· wtm_at "dk"); (· with_unfolding_all rfl); (· first | exact lv_web | exact lv_age | exact lv_room | exact lv_spots | exact lv_known | exact lv_time)) | (apply w_isK; (· wtm_at "dk")) | (apply w_isT; (· wtm_at "dk"))
  | (apply w_putK; (· wtm_at "lk"); (· with_unfolding_all rfl); (· wtm_at "nn")) | (apply w_putT; (· wtm_at "lk"); (· with_unfolding_all exact keyT_lit); (· wtm_at "nn")))
local macro_rules | `(tactic| wtm_at "bb") => `(tactic| (simp only [isN, Bool.not_true, Bool.not_false, Bool.or_true, Bool.true_or, Bool.or_false, Bool.false_or, Bool.xor_true, Bool.xor_false]; done))
local macro_rules | `(tactic| wtm_at "kt") => `(tactic| with_reducible first | exact kb_tu_tu | exact kb_tu_li | exact kb_tu_bo | exact kb_tu_st | exact kb_tu_in | exact kb_li_tu | exact kb_li_li | exact kb_li_bo | exact kb_li_st | exact kb_li_in | exact kb_No_tu | exact kb_No_li | exact kb_No_bo | exact kb_No_st | exact kb_No_in | exact kb_bo_tu | exact kb_bo_li | exact kb_bo_bo | exact kb_bo_st | exact kb_bo_in | exact kb_in_tu | exact kb_in_li | exact kb_in_bo | exact kb_in_st | exact kb_in_in | exact kb_st_tu | exact kb_st_li | exact kb_st_bo | exact kb_st_st | exact kb_st_in)
local macro_rules | `(tactic| wtm_at "ty") => `(tactic| first | assumption | exact ty_ref (by wtm_at "lk") | (with_unfolding_all exact rfl))
local macro_rules | `(tactic| wtm_at "x") => `(tactic| with_reducible first
  | (apply w_taken; (· wtm_at "lk"); (· wtm_at "nn"); (· wtm_at "nn")) | (apply w_eqD; (· wtm_at "vl"); (· wtm_at "vl"); (· wtm_at "pl"); (· wtm_at "pl")) | (apply w_neD; (· wtm_at "vl"); (· wtm_at "vl"); (· wtm_at "pl"); (· wtm_at "pl"))
  | (apply vR_row; (· assumption)) | (refine vR_frz (by assumption) ?_) | refine frz_let ?_ | refine w_isi ?_ | refine w_isi2 ?_ | (apply w_isiE; (· wtm_at "ty"); (· wtm_at "kt")) | (apply w_isiE2; (· wtm_at "ty"); (· wtm_at "kt"); (· wtm_at "kt"))
  | refine w_iteT rfl ?_ | refine w_iteF rfl ?_ | (apply w_iteT; (· wtm_at "bb")) | (apply w_iteF; (· wtm_at "bb")))
local macro_rules | `(tactic| wtm_at "w") => `(tactic| repeat (first | wtm_at "1" | wtm_at "x"))
theorem w_forI {tl : DE} {g : DG} {tb : DS} {E : DEnds} {s : DSt} {G : Gp} (h : tl s G fun x G1 => ∃ p z kvs, x = .ref p ∧ G1 p = some (.sm (.lkT z kvs)) ∧ dForC kvs.length (itemT kvs) (fun G => G p = some (.sm (.lkT z kvs))) g tb E s G1) : dForI tl g tb E s G := h
theorem ends_item {ls : List Mg.Lk} {i : Nat} {d : D} (h : itemT (endsT ls) i d) : ∃ p q, (Mg.endsF ls)[i]? = some (p, q) ∧ d = .tup [P2 p, P2 q] := by
  obtain ⟨k, v, h1, rfl⟩ := h
  unfold endsT at h1
  rw [List.getElem?_map] at h1
  cases e : (Mg.endsF ls)[i]? with
  | none => rw [e] at h1; cases h1
  | some x =>
    rw [e] at h1
    cases h1
    exact ⟨x.1, x.2, rfl, rfl⟩
theorem endsT_len' {ls : List Mg.Lk} : (endsT ls).length = (Mg.endsF ls).length := by unfold endsT; rw [List.length_map]
theorem int_mem {v : Int} {fs : List Int} : D.int v ∈ fs.map D.int ↔ v ∈ fs := by
  constructor
  · intro h
    obtain ⟨x, h1, h2⟩ := List.mem_map.mp h
    cases h2
    exact h1
  · exact fun h => List.mem_map_of_mem h
theorem all_fl : ∀ fs : List Int, (fs.map D.int).all flD = true
  | [] => rfl
  | f :: fs => by rw [List.map_cons, List.all_cons, all_fl fs]; rfl
theorem pl_opt {c : Option Int} {n : Nat} : pl (n + 1) (optD c) = true := by cases c <;> rfl
theorem optD_inj {c : Option Int} {v : Int} : D.int v = optD c ↔ c = some v := by
  cases c with
  | none => exact ⟨nofun, nofun⟩
  | some x => exact ⟨fun z => by cases z; rfl, fun z => by cases z; rfl⟩
theorem val_opt {G : Gp} {c : Option Int} : valOf G (optD c) = some (optD c) := by cases c <;> rfl
theorem r_boxes_from {K : PySem.W.Frag} : Rd 8 (b_boxes_from K) (sp_boxes_from K) := by
  rintro _ G Q ⟨a, st, u, c, rfl, hv, hw, u0, un, hcu, q⟩ F H σ is hg
  obtain ⟨th, G1, rfl, ho, hg1, hn, hout, fin⟩ := netV_view hv hg
  refine ⟨F, _, G1, Ext.refl F H, is, hg1, ?_⟩
  wtm_at "st"
  unfold b_boxes_from
  have n1 := hw.n1
  have n6 := hw.n6
  wtm_at "w"
  intro pf hpf
  have hfn := ho.fresh hpf
  wtm_at "w"
  intro pl hpl
  have hlf : pl ≠ pf := fun z => by rw [z, ud_same] at hpl; cases hpl
  rw [ud_ne hlf] at hpl
  have hln := ho.fresh hpl
  wtm_at "w"
  let GG : List Int × List Int → Gp := fun x => ud (ud G1 pf (.sm (.lst (x.1.map D.int)))) pl (.sm (.lst (x.2.map D.int)))
  have og : ∀ x, NetO K (GG x) th st := fun x => (ho.frame hfn).frame hln
  have gf : ∀ x, GG x pf = some (.sm (.lst (x.1.map D.int))) := fun x => (ud_ne (Ne.symm hlf)).trans ud_same
  have gl : ∀ x, GG x pl = some (.sm (.lst (x.2.map D.int))) := fun x => ud_same
  refine while_st (fun m x => (m = 2 * (st.n.toNat - x.1.length) + x.2.length ∧ m ≤ 20) ∧ Mg.SpI (Mg.eGet st.ls) c u st.n.toNat (fun _ => False) x.1 x.2) (fun _ => [some (.ref th.a), some (.int u), some (optD c), some (.ref pf), some (.ref pl), none, none, none]) GG _ ([u], [u]) ⟨⟨rfl, by simp; omega⟩, Mg.SpI.start u0 (by omega)⟩ rfl rfl ?_
  rintro m ⟨fd, lf⟩ ⟨⟨rfl, m20⟩, sp⟩
  dsimp only at sp m20 ⊢
  have hl6 := sp.len
  have g1f := gf (fd, lf)
  have g1l := gl (fd, lf)
  wtm_at "w"
  intro bb hbb
  wtm_at "w"
  have hbb2 : bb = true ↔ lf = [] := by
    rw [hbb, D.lst.injEq, List.map_eq_nil_iff]
  refine w_ite (fun cc => ?_) (fun cc => ?_)
  · have hne : lf ≠ [] := fun z => by rw [hbb2.mpr z] at cc; cases cc
    obtain ⟨l0, here, rfl⟩ : ∃ l0 here, lf = l0 ++ [here] := ⟨lf.dropLast, lf.getLast hne, (List.dropLast_concat_getLast hne).symm⟩
    have hfd : here ∈ fd := sp.sub here (by simp)
    wtm_at "w"
    refine w_pop (y := .int here) g1l ?_ ?_
    · simp
    · have e1 : ((l0 ++ [here]).map D.int).dropLast = l0.map D.int := by simp
      have eG : ud (GG (fd, l0 ++ [here])) pl (.sm (.lst (l0.map D.int))) = GG (fd, l0) := ud_ud
      rw [e1, eG]
      have o1 := og (fd, l0)
      have ge := o1.ge
      have ga := o1.ga
      wtm_at "w"
      refine ⟨th.e, endsT st.ls, ge, fun z => ?_⟩
      refine w_forI ?_
      have nea : th.a ≠ th.e := fun w => by rw [w, ge] at ga; cases ga
      have nef : pf ≠ th.e := fun w => hfn (by rw [w]; unfold Nt.ads; simp)
      have nel : pl ≠ th.e := fun w => hln (by rw [w]; unfold Nt.ads; simp)
      let G3 : List Int × List Int → Gp := fun x => ud (GG x) th.e (.sm (.lkT z (endsT st.ls)))
      have g3f : ∀ x, G3 x pf = some (.sm (.lst (x.1.map D.int))) := fun x => (ud_ne nef).trans (gf x)
      have g3l : ∀ x, G3 x pl = some (.sm (.lst (x.2.map D.int))) := fun x => (ud_ne nel).trans (gl x)
      have g3a : ∀ x, G3 x th.a = some (.sm (.ins (cN K) th.dx (insF th st))) := fun x => (ud_ne nea).trans (og x).ga
      have g3e : ∀ x, G3 x th.e = some (.sm (.lkT z (endsT st.ls))) := fun x => ud_same
      have ga3 := g3a (fd, l0)
      refine w_fld (w_var rfl ?_)
      refine w_fldE ga3 rfl ?_
      refine ⟨th.e, z, endsT st.ls, rfl, g3e _, ?_⟩
      refine for_st (fun i x => Mg.SpI (Mg.eGet st.ls) c u st.n.toNat (fun v => v = here) x.1 x.2 ∧ here ∈ x.1 ∧ 2 * (st.n.toNat - x.1.length) + x.2.length < 2 * (st.n.toNat - fd.length) + (l0 ++ [here]).length ∧ ∀ j p q, j < i → (Mg.endsF st.ls)[j]? = some (p, q) → p.1 = here → c ≠ some q.1 → q.1 ∈ x.1) (fun _ => [some (.ref th.a), some (.int u), some (optD c), some (.ref pf), some (.ref pl), some (.int here), none, none]) G3 (fd, l0) ⟨sp.pop, hfd, by simp, fun j p q hj => absurd hj (by omega)⟩ rfl rfl (fun i x _ _ => g3e x) ?_ ?_
      · rintro i d ⟨f1, l1⟩ hi hit ⟨w1, w2, w3, w4⟩
        dsimp only at w1 w2 w3 w4
        obtain ⟨p, q, hpq, rfl⟩ := ends_item hit
        have w1l := w1.len
        have hq : Mg.eGet st.ls p = some q := (eGet_memE hw).mpr (List.mem_of_getElem? hpq)
        have hqr := eGet_ok hw hq
        have gf1 := g3f (f1, l1)
        have gl1 := g3l (f1, l1)
        have wl : l1.length < 100 := by omega
        have next : ∀ f2 l2, Mg.SpI (Mg.eGet st.ls) c u st.n.toNat (fun v => v = here) f2 l2 → (∀ v ∈ f1, v ∈ f2) → (p.1 = here → c ≠ some q.1 → q.1 ∈ f2) → ∀ j p' q', j < i + 1 → (Mg.endsF st.ls)[j]? = some (p', q') → p'.1 = here → c ≠ some q'.1 → q'.1 ∈ f2 := fun f2 l2 _ h1 h2 j p' q' hj hp' h3 h4 => by
          by_cases e : j = i
          · subst e
            rw [hpq] at hp'
            cases hp'
            exact h2 h3 h4
          · exact h1 _ (w4 j p' q' (by omega) hp' h3 h4)
        wtm_at "w"
        refine w_ite (fun c1 => ?_) (fun c1 => ?_)
        · have hp1 : p.1 = here := of_decide_eq_true c1
          wtm_at "w"
          refine w_inFL (lst_ref gf1) rfl (all_fl f1) fun b2 hb2 => ?_
          rw [int_mem] at hb2
          rw [bx_t]
          wtm_at "w"
          refine w_ite (fun c2 => ?_) (fun c2 => ?_)
          · have hnew : q.1 ∉ f1 := fun z => by rw [hb2.mpr z] at c2; cases c2
            wtm_at "w"
            refine w_neD rfl val_opt rfl pl_opt fun b3 hb3 => ?_
            rw [optD_inj] at hb3
            wtm_at "w"
            refine w_ite (fun c3 => ?_) (fun c3 => ?_)
            · have hcq : c ≠ some q.1 := fun z => by rw [hb3.mpr z] at c3; cases c3
              have w5 := w1.add hcu w2 hnew hqr.1 (by omega) ⟨p.2, q.2, by rw [← hp1]; exact hq⟩ hcq
              have w5l := w5.len
              rw [List.length_append, List.length_singleton] at w5l
              wtm_at "w"
              refine w_se (f1 ++ [q.1], l1 ++ [q.1]) ⟨w5, by simp [w2], ?_, next _ _ w5 (fun v h => by simp [h]) fun _ _ => by simp⟩ (.keep (.keep (.keep (.keep (.keep (.keep (.drop (.drop .refl)))))))) ?_
              · simp only [List.length_append, List.length_singleton] at w3 ⊢
                omega
              · show ud (ud (ud (ud (ud G1 pf _) pl _) th.e _) pf _) pl _ = ud (ud (ud G1 pf _) pl _) th.e _
                rw [List.map_append, List.map_append]
                funext b
                unfold ud
                grind
            · have hcq : c = some q.1 := hb3.mp (by simpa using c3)
              exact w_se (f1, l1) ⟨w1, w2, w3, next f1 l1 w1 (fun _ h => h) fun _ z => absurd hcq z⟩ (.keep (.keep (.keep (.keep (.keep (.keep (.drop (.drop .refl)))))))) rfl
          · have hold : q.1 ∈ f1 := hb2.mp (by simpa using c2)
            wtm_at "w"
            exact w_se (f1, l1) ⟨w1, w2, w3, next f1 l1 w1 (fun _ h => h) fun _ _ => hold⟩ (.keep (.keep (.keep (.keep (.keep (.keep (.drop (.drop .refl)))))))) rfl
        · have hp1 : ¬ p.1 = here := of_decide_eq_false c1
          wtm_at "w"
          exact w_se (f1, l1) ⟨w1, w2, w3, next f1 l1 w1 (fun _ h => h) fun z => absurd z hp1⟩ (.keep (.keep (.keep (.keep (.keep (.keep (.drop (.drop .refl)))))))) rfl
      · rintro ⟨f1, l1⟩ ⟨w1, w2, w3, w4⟩
        dsimp only at w1 w2 w3 w4
        wtm_at "w"
        refine ⟨g3e _, ?_⟩
        wtm_at "w"
        have eG : ud (G3 (f1, l1)) th.e (.sm (.dT (endsT st.ls))) = GG (f1, l1) := by
          show ud (ud (GG (f1, l1)) th.e _) th.e _ = _
          rw [ud_ud, ud_self (og _).ge]
        refine w_se (f1, l1) ⟨_, w3, ⟨rfl, by omega⟩, w1.done fun v hv => ?_⟩ (.keep (.keep (.keep (.keep (.keep (.drop (.drop (.drop .refl)))))))) eG
        obtain ⟨⟨x, y, e⟩, h1, h2⟩ := hv
        obtain ⟨j, hj⟩ := List.mem_iff_getElem?.mp ((eGet_memE hw).mp e)
        have hjl := (List.getElem?_eq_some_iff.mp hj).1
        exact w4 j _ _ (by rw [endsT_len']; exact hjl) hj rfl h2
  · have hlf : lf = [] := hbb2.mp (by simpa using cc)
    subst hlf
    refine vN0 ?_
    wtm_at "w"
    refine vR_vR (vR_frz' g1f ?_)
    have hall := sp.all
    refine fin Q _ _ G (fun b hb => ?_) (fun b x hb hx => ?_) (fun _ _ => rfl) (q fd (by omega) hall)
    · have h1 : b ≠ pf := fun z => hfn (z ▸ hb)
      have h2 : b ≠ pl := fun z => hln (z ▸ hb)
      rw [er_ne h1]
      exact (ud_ne h2).trans (ud_ne h1)
    · have h1 : b ≠ pf := fun z => by rw [z, hn pf hpf] at hx; cases hx
      have h2 : b ≠ pl := fun z => by rw [z, hn pl hpl] at hx; cases hx
      rw [er_ne h1]
      show ud (ud G1 pf _) pl _ b = _
      rw [ud_ne h2, ud_ne h1, hout b hb]
      exact hx
theorem w_boxes_some {K : PySem.W.Frag} {a : Addr} {st : Mg.NS} {u c : Int} {G : Gp} {Q : DK} (hv : NetV K G a st) (hw : WebOk st.n st.ls) (u0 : 0 ≤ u) (un : u < st.n) (hc : c ≠ u) (q : ∀ fs : List Int, fs.length ≤ 6 → (∀ v, v ∈ fs ↔ Mg.Rc (Mg.eGet st.ls) (some c) u v) → Q (.lst (fs.map D.int)) G) : sp_boxes_from K [.ref a, .int u, .int c] G Q := ⟨a, st, u, some c, rfl, hv, hw, u0, un, fun z => hc (Option.some.inj z), q⟩
theorem r_leads {K : PySem.W.Frag} : Rd 5 (b_leads K) (sp_leads K) := by
  rintro _ G Q ⟨a, st, b, d, h, rfl, hv, hw, h0, h1, q⟩ F H σ is hg
  obtain ⟨th, G1, rfl, ho, hg1, hn, hout, fin⟩ := netV_view hv hg
  refine ⟨F, _, G1, Ext.refl F H, is, hg1, ?_⟩
  have fin2 : ∀ d, Q d G → vR Q d G1 := fun d q => fin Q _ G1 G (fun _ _ => rfl) (fun b x hb hx => by rw [hout b hb]; exact hx) (fun _ _ => rfl) q
  wtm_at "st"
  unfold b_leads
  have ga := ho.ga
  have ge := ho.ge
  have gs := ho.gs
  obtain ⟨sp1, sp2⟩ := spot_at (st := st) h0 h1
  wtm_at "w"
  refine w_ixL (lst_ref gs) sp1 ?_
  wtm_at "w"
  rw [valD_ends, Option.isSome_map, bx_t]
  cases e : Mg.eGet st.ls (b, d) with
  | none =>
    refine w_iteT rfl ?_
    wtm_at "w"
    intro r hr
    refine fin2 _ (q r ?_)
    rw [leads_none e, hr]
    exact ⟨fun z => P2_inj z, fun z => by rw [z]⟩
  | some k =>
    have kr := eGet_ok hw e
    have kn := (enOk hw).ne _ _ e
    refine w_iteF rfl ?_
    wtm_at "w"
    refine w_lkT (dT_own ge) keyT_lit (by rw [valD_ends, e]; rfl) ?_
    wtm_at "w"
    refine w_boxes_some (.inr ⟨th, rfl, ho⟩) hw kr.1 kr.2.1 kn fun fs hf hm => ?_
    wtm_at "w"
    refine w_inFL rfl rfl (all_fl fs) fun r hr => ?_
    rw [bx_f]
    refine fin2 _ (q r ?_)
    rw [leads_some e, hr, int_mem, hm]
end Dg
namespace Dg
open PySem PySem.Spec L2
local macro_rules | `(tactic| wtm_at "ne") => `(tactic| first | assumption | (apply Ne.symm; assumption) | (grind [ud, er]))
local macro_rules | `(tactic| wtm_at "lk") => `(tactic| first | (with_reducible assumption) | (with_reducible exact ud_same) | ((with_reducible refine (ud_ne (by wtm_at "ne")).trans ?_); wtm_at "lk"))
local macro_rules | `(tactic| wtm_at "gl") => `(tactic| first | (with_reducible assumption) | (with_reducible exact lst_ref (by wtm_at "lk")) | (with_reducible exact lstOf_new (by assumption) (by assumption)) | (with_unfolding_all exact rfl))
local macro_rules | `(tactic| wtm_at "vl") => `(tactic| first | (with_reducible exact val_ref (by wtm_at "lk")) | (with_unfolding_all exact rfl))
local macro_rules | `(tactic| wtm_at "dk") => `(tactic| with_reducible first | exact dK_own (by wtm_at "lk") | exact dK_lk (by wtm_at "lk") | exact dT_own (by wtm_at "lk"))
local macro_rules | `(tactic| wtm_at "pl") => `(tactic| with_unfolding_all first | exact rfl | exact all_int _ | exact all_P2 _ | assumption)
local macro_rules | `(tactic| wtm_at "nn") => `(tactic| first | omega | decide | (simp only [List.length_cons, List.length_nil, List.length_map, List.length_append]; omega) | grind)
local macro_rules | `(tactic| wtm_at "st") => `(tactic| (simp only [stD, List.map_cons, List.map_nil, List.length_cons, List.length_nil, List.replicate, Nat.reduceAdd, Nat.reduceSub, List.cons_append, List.nil_append]))
local macro_rules | `(tactic| wtm_at "1") => `(tactic| with_reducible first
  | refine w_seq ?_ | refine w_asgN ?_ | refine w_asgS ?_ | refine w_asgT ?_ | refine w_ret ?_ | refine w_drop ?_ | refine w_ifS ?_ | refine w_test ?_ | refine w_next ?_
  | refine w_nx ?_ | refine w_nx0 ?_ | refine w_rt ?_ | refine w_bk ?_ | refine w_ct ?_
  | refine w_bl2 ?_ | refine w_and ?_ | refine w_or ?_ | refine w_not ?_ | refine w_andV ?_ | refine w_orV ?_ | refine w_notV ?_ | refine w_if ?_
  | (apply w_var; (· with_unfolding_all rfl)) | refine w_c ?_ | refine w_op ?_ | refine w_chain ?_ | refine w_nil ?_ | refine w_cons ?_ | refine w_tup ?_ | refine w_lst ?_
  | (apply w_len; (· wtm_at "nn")) | refine w_call ?_ | refine w_cb ?_ | refine w_isN ?_ | refine w_notN ?_ | refine w_fz ?_
  | refine w_add ?_ | refine w_sub ?_ | refine w_lt ?_ | refine w_le ?_ | refine w_gt ?_ | refine w_ge ?_ | (apply w_mod; (· wtm_at "nn")) | (apply w_div; (· wtm_at "nn"); (· wtm_at "nn"))
  | (apply w_eq; (· with_unfolding_all rfl)) | (apply w_ne; (· with_unfolding_all rfl))
  | (apply w_ixT; (· with_unfolding_all rfl)) | (apply w_ixL; (· wtm_at "gl"); (· with_unfolding_all rfl))
  | refine w_lenT ?_ | (apply w_lenL; (· wtm_at "gl")) | refine w_min2 ?_ | refine w_max2 ?_ | refine w_intB ?_ | (apply w_tupleL; (· wtm_at "gl"))
  | refine w_bm ?_ | refine w_bm0 ?_ | (apply w_ty; (· wtm_at "gl"))
  | (apply w_setL; (· wtm_at "lk"); (· with_unfolding_all rfl)) | (apply w_append; (· wtm_at "lk"); (· wtm_at "nn")) | (apply w_extend; (· wtm_at "lk"); (· wtm_at "gl"); (· wtm_at "nn"))
  | refine w_hcons ?_ | refine w_hnil ?_ | refine w_hname ?_ | (apply w_htup; (· with_unfolding_all rfl)) | (apply w_exT; (· with_unfolding_all rfl))
  | refine w_lcR1 ?_ | refine w_lcL ?_ | refine w_lcT ?_ | refine w_forR1 ?_ | refine w_forR2 ?_ | refine w_forL ?_ | refine w_forT ?_ | refine w_yes ?_ | refine w_cnm ?_ | (apply w_ctp; (· with_unfolding_all rfl))
  | (apply w_exL; (· wtm_at "gl")) | refine w_exTu ?_ | (apply w_exI; (· wtm_at "nn")) | (apply w_exI2; (· wtm_at "nn")) | refine w_exII ?_
  | refine w_lcK ?_ | refine w_fld ?_ | refine w_fldS ?_ | refine w_meth ?_ | refine w_make ?_ | (apply w_fldE; (· wtm_at "lk"); (· with_unfolding_all rfl)) | (apply w_fldSE; (· wtm_at "lk"); (· first | exact insF_lt | (with_unfolding_all exact Nat.le_of_ble_eq_true rfl) | wtm_at "nn")) | (apply w_lenD; (· wtm_at "lk"))
  | refine w_disp ?_ | refine w_pnil ?_ | refine w_pcons ?_ | (apply w_dispE; (· wtm_at "lk"); (· with_unfolding_all rfl); (· wtm_at "nn"))
  | refine w_dget ?_ | refine w_din ?_ | refine w_dget1 ?_ | refine w_dput ?_ | refine w_dpop1 ?_ | refine w_lenSet ?_ | refine w_listRng ?_ | refine w_notInRng ?_
  | (apply w_inK; (· wtm_at "dk"); (· with_unfolding_all rfl)) | (apply w_inT; (· wtm_at "dk"); (· with_unfolding_all exact keyT_lit))
  | (apply w_lkK; (· wtm_at "dk"); (· with_unfolding_all rfl); (· first | exact lv_web | exact lv_age | exact lv_room | exact lv_spots | exact lv_known | exact lv_time)) | (apply w_isK; (· wtm_at "dk")) | (apply w_isT; (· wtm_at "dk"))
  | (apply w_putK; (· wtm_at "lk"); (· with_unfolding_all rfl); (· wtm_at "nn")) | (apply w_putT; (· wtm_at "lk"); (· with_unfolding_all exact keyT_lit); (· wtm_at "nn")))
local macro_rules | `(tactic| wtm_at "bb") => `(tactic| (simp only [isN, Bool.not_true, Bool.not_false, Bool.or_true, Bool.true_or, Bool.or_false, Bool.false_or, Bool.xor_true, Bool.xor_false]; done))
local macro_rules | `(tactic| wtm_at "kt") => `(tactic| with_reducible first | exact kb_tu_tu | exact kb_tu_li | exact kb_tu_bo | exact kb_tu_st | exact kb_tu_in | exact kb_li_tu | exact kb_li_li | exact kb_li_bo | exact kb_li_st | exact kb_li_in | exact kb_No_tu | exact kb_No_li | exact kb_No_bo | exact kb_No_st | exact kb_No_in | exact kb_bo_tu | exact kb_bo_li | exact kb_bo_bo | exact kb_bo_st | exact kb_bo_in | exact kb_in_tu | exact kb_in_li | exact kb_in_bo | exact kb_in_st | exact kb_in_in | exact kb_st_tu | exact kb_st_li | exact kb_st_bo | exact kb_st_st | exact kb_st_in)
local macro_rules | `(tactic| wtm_at "ty") => `(tactic| first | assumption | exact ty_ref (by wtm_at "lk") | (with_unfolding_all exact rfl))
local macro_rules | `(tactic| wtm_at "x") => `(tactic| with_reducible first
  | (apply w_taken; (· wtm_at "lk"); (· wtm_at "nn"); (· wtm_at "nn")) | (apply w_eqD; (· wtm_at "vl"); (· wtm_at "vl"); (· wtm_at "pl"); (· wtm_at "pl")) | (apply w_neD; (· wtm_at "vl"); (· wtm_at "vl"); (· wtm_at "pl"); (· wtm_at "pl"))
  | (apply vR_row; (· assumption)) | (refine vR_frz (by assumption) ?_) | refine frz_let ?_ | refine w_isi ?_ | refine w_isi2 ?_ | (apply w_isiE; (· wtm_at "ty"); (· wtm_at "kt")) | (apply w_isiE2; (· wtm_at "ty"); (· wtm_at "kt"); (· wtm_at "kt"))
  | refine w_iteT rfl ?_ | refine w_iteF rfl ?_ | (apply w_iteT; (· wtm_at "bb")) | (apply w_iteF; (· wtm_at "bb")))
local macro_rules | `(tactic| wtm_at "w") => `(tactic| repeat (first | wtm_at "1" | wtm_at "x"))
theorem wrongAt_len {st : Mg.NS} (hok : NOk st) {t b : Int} (h0 : 0 ≤ b) (h1 : b < st.n) : (wrongAt st t b).length ≤ 8 := by
  have hkl := hok.kl
  obtain ⟨n1, n2, n3⟩ := hok.kn _ (List.mem_of_getElem? (kn_at (st := st) h0 (by omega)))
  have := List.length_filterMap_le (wrongP st t b) (Mg.srt (Mg.knAt st b))
  have hl := (Mg.srt_perm n1).length_eq
  have hr8 := hok.r8
  unfold wrongAt
  omega
theorem w_leads {K : PySem.W.Frag} {a : Addr} {st : Mg.NS} {b d h : Int} {G : Gp} {Q : DK} (hv : NetV K G a st) (hw : WebOk st.n st.ls) (h0 : 0 ≤ h) (h1 : h < st.spots.length) (q : ∀ r : Bool, (r = true ↔ Leads st b d h) → Q (.bl r) G) : sp_leads K [.ref a, .int b, .int d, .int h] G Q := ⟨a, st, b, d, h, rfl, hv, hw, h0, h1, q⟩
theorem w_wrong {K : PySem.W.Frag} {a : Addr} {st : Mg.NS} {t : Int} {G : Gp} {Q : DK} (hv : NetV K G a st) (hok : NOk st) (h0 : st.now ≤ t) (h1 : t ≤ 1000) (q : ∀ p, G p = none → Q (.ref p) (ud G p (.sm (.lst ((wrongF st t).map triD))))) : sp_wrong K [.ref a, .int t] G Q := ⟨a, st, t, rfl, hv, hok, h0, h1, q⟩
theorem w_N_need_time {K : PySem.W.Frag} {a : Addr} {st : Mg.NS} {t : Int} {G : Gp} {Q : DK} (hv : NetV K G a st) (h0 : st.now ≤ t) (h1 : t ≤ 1000) (q : Q .non G) : sp_N_need_time K [.ref a, .int t] G Q := ⟨a, st, t, rfl, hv, h0, h1, q⟩
theorem w_N_door_of {K : PySem.W.Frag} {a : Addr} {st : Mg.NS} {b h t : Int} {G : Gp} {Q : DK} (hv : NetV K G a st) (h0 : 0 ≤ b) (h1 : b < st.known.length) (q : Q (optD (Mg.doorF st b h t)) G) : sp_N_door_of K [.ref a, .int b, .int h, .int t] G Q := ⟨a, st, b, h, t, rfl, hv, h0, h1, q⟩
theorem flat_succ {α : Type} (f : Nat → List α) (i : Nat) : (List.range (i + 1)).flatMap f = (List.range i).flatMap f ++ f i := by
  simp [List.range_succ, List.flatMap_append]
theorem fm_take {α β : Type} (f : α → Option β) {xs : List α} {j : Nat} (hj : j < xs.length) : (xs.take (j + 1)).filterMap f = (xs.take j).filterMap f ++ (f xs[j]).toList := by
  rw [List.take_succ, List.getElem?_eq_getElem hj, List.filterMap_append]
  congr 1
theorem srt_get_at {kn : Mg.Kn} {j : Nat} (hj : j < (Mg.srtK kn).length) : ∃ h2 : j < (Mg.srt kn).length, (Mg.srt kn)[j] = ((Mg.srtK kn)[j], (Mg.kGet kn (Mg.srtK kn)[j]).getD (0, 0)) := by
  have : (Mg.srt kn).length = (Mg.srtK kn).length := by unfold Mg.srt; rw [List.length_map]
  refine ⟨by omega, ?_⟩
  simp only [Mg.srt, List.getElem_map]
theorem srtK_some {kn : Mg.Kn} {h : Int} (hh : h ∈ Mg.srtK kn) : ∃ v, Mg.kGet kn h = some v := by
  cases e : Mg.kGet kn h with
  | some v => exact ⟨v, rfl⟩
  | none => exact absurd ((Mg.srtK_perm kn).subset hh) (Mg.kGet_none.mp e)
theorem door_eq {st : Mg.NS} {b h t d seen : Int} (e : Mg.kGet (Mg.knAt st b) h = some (d, seen)) : Mg.doorF st b h t = if t ≤ seen + st.age then some d else none := by
  unfold Mg.doorF
  rw [e]
theorem r_wrong {K : PySem.W.Frag} : Rd 6 (b_wrong K) (sp_wrong K) := by
  rintro _ G Q ⟨a, st, t, rfl, hv, hok, t0, t1, q⟩ F H σ is hg
  obtain ⟨th, G1, rfl, ho, hg1, hn, hout, fin⟩ := netV_view hv hg
  refine ⟨F, _, G1, Ext.refl F H, is, hg1, ?_⟩
  wtm_at "st"
  unfold b_wrong
  have ga := ho.ga
  have hkl := hok.kl
  have n1 := hok.web.n1
  have n6 := hok.web.n6
  have hr8 := hok.r8
  have hv1 : NetV K G1 th.a st := .inr ⟨th, rfl, ho⟩
  wtm_at "w"
  refine w_methE (netV_ins hv1 fun _ => rfl) ?_
  wtm_at "w"
  refine w_N_need_time hv1 t0 t1 ?_
  wtm_at "w"
  intro pf hpf
  have hfn := ho.fresh hpf
  have gfa : ∀ o, ud G1 pf o th.a = some (.sm (.ins (cN K) th.dx (insF th st))) := fun o => (ud_ne (fun z => hfn (by rw [← z]; exact List.mem_cons_self ..))).trans ga
  have og : ∀ o, NetO K (ud G1 pf o) th st := fun o => ho.frame hfn
  have ga0 := gfa (.sm (.lst []))
  wtm_at "w"
  refine for_st (fun i (fs : List (Int × (Int × Int))) => fs = (List.range i).flatMap (fun (b : Nat) => wrongAt st t (b : Int)) ∧ fs.length ≤ 8 * i) (fun _ => [some (.ref th.a), some (.int t), some (.ref pf), none, none, none]) (fun fs => ud G1 pf (.sm (.lst (fs.map triD)))) [] ⟨rfl, by simp⟩ rfl rfl (fun _ _ _ _ => trivial) ?_ ?_
  · rintro i _ fs hi rfl ⟨w1, w2⟩
    have o1 := og (.sm (.lst (fs.map triD)))
    have ga1 := o1.ga
    have gk1 := o1.gk
    have hib : (i : Int) < st.known.length := by omega
    obtain ⟨d, hd, had⟩ := refs_at (ds := th.ds) (b := (i : Int)) (by omega) (by rw [ho.len]; exact hib)
    have hkn := kn_at (st := st) (b := (i : Int)) (by omega) hib
    have gd1 := o1.gd hd hkn
    obtain ⟨k1, k2, k3⟩ := hok.kn _ (List.mem_of_getElem? hkn)
    have hlk : (Mg.kKeys (Mg.knAt st (i : Int))).length = (Mg.knAt st (i : Int)).length := by simp [Mg.kKeys]
    have hw1 : (List.range (i + 1)).flatMap (fun (b : Nat) => wrongAt st t (b : Int)) = fs ++ wrongAt st t (i : Int) := by rw [flat_succ, ← w1]
    rw [Int.zero_add]
    wtm_at "w"
    refine w_ixL (lst_ref gk1) had ?_
    wtm_at "w"
    refine ⟨d, kvD (Mg.knAt st (i : Int)), Mg.kKeys (Mg.knAt st (i : Int)), rfl, dK_own gd1, by unfold kvD Mg.kKeys; rw [List.map_map, List.map_map]; rfl, by omega, fun ys hp hs z hz => ?_⟩
    have hys : ys = Mg.srtK (Mg.knAt st (i : Int)) := Mg.rising_eq (hp.trans (Mg.srtK_perm _).symm) hs (Mg.srtK_sorted _)
    subst hys
    have hlen := (Mg.srtK_perm (Mg.knAt st (i : Int))).length_eq
    wtm_at "w"
    rw [List.length_map]
    refine for_st (fun j (gs : List (Int × (Int × Int))) => gs = fs ++ ((Mg.srt (Mg.knAt st (i : Int))).take j).filterMap (wrongP st t (i : Int)) ∧ gs.length ≤ 8 * i + j) (fun _ => [some (.ref th.a), some (.int t), some (.ref pf), some (.int (i : Int)), none, none]) (fun gs => ud G1 pf (.sm (.lst (gs.map triD)))) fs ⟨by simp, by omega⟩ rfl rfl (fun _ _ _ _ => rfl) ?_ ?_
    · rintro j _ gs hj hit ⟨v1, v2⟩
      obtain ⟨hj2, rfl⟩ := ints_at hit
      obtain ⟨hj3, hsr⟩ := srt_get_at hj2
      have hmem : (Mg.srtK (Mg.knAt st (i : Int)))[j] ∈ Mg.srtK (Mg.knAt st (i : Int)) := List.getElem_mem hj2
      generalize (Mg.srtK (Mg.knAt st (i : Int)))[j] = h at *
      obtain ⟨⟨dd, seen⟩, hk⟩ := srtK_some hmem
      rw [hk] at hsr
      have hpk := k3 _ (mem_of_kGet hk)
      have hnext : fs ++ ((Mg.srt (Mg.knAt st (i : Int))).take (j + 1)).filterMap (wrongP st t (i : Int)) = gs ++ (wrongP st t (i : Int) (h, (dd, seen))).toList := by
        rw [fm_take _ hj3, v1, List.append_assoc, hsr]
        rfl
      have o2 := og (.sm (.lst (gs.map triD)))
      have hv2 : NetV K (ud G1 pf (.sm (.lst (gs.map triD)))) th.a st := .inr ⟨th, rfl, o2⟩
      wtm_at "w"
      refine w_methE (netV_ins hv2 fun _ => rfl) ?_
      wtm_at "w"
      refine w_N_door_of hv2 (by omega) hib ?_
      rw [door_eq hk]
      by_cases ct : t ≤ seen + st.age
      · rw [if_pos ct]
        wtm_at "w"
        refine w_leads hv2 hok.web hpk.1 hpk.2.1 fun r hr => ?_
        wtm_at "w"
        refine w_ite (fun c => ?_) (fun c => ?_)
        · have hnl : ¬ Leads st (i : Int) dd h := fun z => by rw [hr.mpr z] at c; cases c
          have eP : wrongP st t (i : Int) (h, (dd, seen)) = some ((i : Int), (h, dd)) := wrongP_yes ct hnl
          rw [eP] at hnext
          wtm_at "w"
          refine w_se (gs ++ [((i : Int), (h, dd))]) ⟨hnext.symm, by simp; omega⟩ (.keep (.keep (.keep (.keep (.drop (.drop .refl)))))) ?_
          rw [ud_ud, List.map_append]
          rfl
        · have hl : Leads st (i : Int) dd h := hr.mp (by simpa using c)
          have eP : wrongP st t (i : Int) (h, (dd, seen)) = none := wrongP_no (fun z => z.2 hl)
          rw [eP] at hnext
          wtm_at "w"
          exact w_se gs ⟨by rw [hnext]; simp, by omega⟩ (.keep (.keep (.keep (.keep (.drop (.drop .refl)))))) rfl
      · rw [if_neg ct]
        wtm_at "w"
        have eP : wrongP st t (i : Int) (h, (dd, seen)) = none := wrongP_no (fun z => ct z.1)
        rw [eP] at hnext
        exact w_se gs ⟨by rw [hnext]; simp, by omega⟩ (.keep (.keep (.keep (.keep (.drop (.drop .refl)))))) rfl
    · rintro gs ⟨v1, v2⟩
      have hsl : (Mg.srt (Mg.knAt st (i : Int))).length = (Mg.srtK (Mg.knAt st (i : Int))).length := by unfold Mg.srt; rw [List.length_map]
      rw [← hsl, List.take_length] at v1
      refine w_se gs ⟨?_, by omega⟩ (.keep (.keep (.keep (.drop (.drop (.drop .refl)))))) rfl
      rw [hw1, v1]
      rfl
  · rintro fs ⟨w1, w2⟩
    wtm_at "w"
    have e : fs = wrongF st t := w1
    subst e
    refine fin Q _ _ (ud G pf (.sm (.lst ((wrongF st t).map triD)))) (fun b hb => ud_ne (fun z => hfn (z ▸ hb))) (fun b x hb hx => ?_) (fun b hb => ud_ne (fun z => hfn (z ▸ hb))) (q pf (hn pf hpf))
    by_cases e : b = pf
    · rw [e, ud_same] at hx ⊢
      exact hx
    · rw [ud_ne e] at hx ⊢
      rw [hout b hb]
      exact hx
end Dg
namespace Dg
open PySem PySem.Spec L2
local macro_rules | `(tactic| wtm_at "ne") => `(tactic| first | assumption | (apply Ne.symm; assumption) | (grind [ud, er]))
local macro_rules | `(tactic| wtm_at "lk") => `(tactic| first | (with_reducible assumption) | (with_reducible exact ud_same) | ((with_reducible refine (ud_ne (by wtm_at "ne")).trans ?_); wtm_at "lk"))
local macro_rules | `(tactic| wtm_at "gl") => `(tactic| first | (with_reducible assumption) | (with_reducible exact lst_ref (by wtm_at "lk")) | (with_reducible exact lstOf_new (by assumption) (by assumption)) | (with_unfolding_all exact rfl))
local macro_rules | `(tactic| wtm_at "vl") => `(tactic| first | (with_reducible exact val_ref (by wtm_at "lk")) | (with_unfolding_all exact rfl))
local macro_rules | `(tactic| wtm_at "dk") => `(tactic| with_reducible first | exact dK_own (by wtm_at "lk") | exact dK_lk (by wtm_at "lk") | exact dT_own (by wtm_at "lk"))
local macro_rules | `(tactic| wtm_at "pl") => `(tactic| with_unfolding_all first | exact rfl | exact all_int _ | exact all_P2 _ | assumption)
local macro_rules | `(tactic| wtm_at "nn") => `(tactic| first | omega | decide | (simp only [List.length_cons, List.length_nil, List.length_map, List.length_append]; omega) | grind)
local macro_rules | `(tactic| wtm_at "st") => `(tactic| (simp only [stD, List.map_cons, List.map_nil, List.length_cons, List.length_nil, List.replicate, Nat.reduceAdd, Nat.reduceSub, List.cons_append, List.nil_append]))
local macro_rules | `(tactic| wtm_at "1") => `(tactic| with_reducible first
  | refine w_seq ?_ | refine w_asgN ?_ | refine w_asgS ?_ | refine w_asgT ?_ | refine w_ret ?_ | refine w_drop ?_ | refine w_ifS ?_ | refine w_test ?_ | refine w_next ?_
  | refine w_nx ?_ | refine w_nx0 ?_ | refine w_rt ?_ | refine w_bk ?_ | refine w_ct ?_
  | refine w_bl2 ?_ | refine w_and ?_ | refine w_or ?_ | refine w_not ?_ | refine w_andV ?_ | refine w_orV ?_ | refine w_notV ?_ | refine w_if ?_
  | (apply w_var; (· with_unfolding_all rfl)) | refine w_c ?_ | refine w_op ?_ | refine w_chain ?_ | refine w_nil ?_ | refine w_cons ?_ | refine w_tup ?_ | refine w_lst ?_
  | (apply w_len; (· wtm_at "nn")) | refine w_call ?_ | refine w_cb ?_ | refine w_isN ?_ | refine w_notN ?_ | refine w_fz ?_
  | refine w_add ?_ | refine w_sub ?_ | refine w_lt ?_ | refine w_le ?_ | refine w_gt ?_ | refine w_ge ?_ | (apply w_mod; (· wtm_at "nn")) | (apply w_div; (· wtm_at "nn"); (· wtm_at "nn"))
  | (apply w_eq; (· with_unfolding_all rfl)) | (apply w_ne; (· with_unfolding_all rfl))
  | (apply w_ixT; (· with_unfolding_all rfl)) | (apply w_ixL; (· wtm_at "gl"); (· with_unfolding_all rfl))
  | refine w_lenT ?_ | (apply w_lenL; (· wtm_at "gl")) | refine w_min2 ?_ | refine w_max2 ?_ | refine w_intB ?_ | (apply w_tupleL; (· wtm_at "gl"))
  | refine w_bm ?_ | refine w_bm0 ?_ | (apply w_ty; (· wtm_at "gl"))
  | (apply w_setL; (· wtm_at "lk"); (· with_unfolding_all rfl)) | (apply w_append; (· wtm_at "lk"); (· wtm_at "nn")) | (apply w_extend; (· wtm_at "lk"); (· wtm_at "gl"); (· wtm_at "nn"))
  | refine w_hcons ?_ | refine w_hnil ?_ | refine w_hname ?_ | (apply w_htup; (· with_unfolding_all rfl)) | (apply w_exT; (· with_unfolding_all rfl))
  | refine w_lcR1 ?_ | refine w_lcL ?_ | refine w_lcT ?_ | refine w_forR1 ?_ | refine w_forR2 ?_ | refine w_forL ?_ | refine w_forT ?_ | refine w_yes ?_ | refine w_cnm ?_ | (apply w_ctp; (· with_unfolding_all rfl))
  | (apply w_exL; (· wtm_at "gl")) | refine w_exTu ?_ | (apply w_exI; (· wtm_at "nn")) | (apply w_exI2; (· wtm_at "nn")) | refine w_exII ?_
  | refine w_lcK ?_ | refine w_fld ?_ | refine w_fldS ?_ | refine w_meth ?_ | refine w_make ?_ | (apply w_fldE; (· wtm_at "lk"); (· with_unfolding_all rfl)) | (apply w_fldSE; (· wtm_at "lk"); (· first | exact insF_lt | (with_unfolding_all exact Nat.le_of_ble_eq_true rfl) | wtm_at "nn")) | (apply w_lenD; (· wtm_at "lk"))
  | refine w_disp ?_ | refine w_pnil ?_ | refine w_pcons ?_ | (apply w_dispE; (· wtm_at "lk"); (· with_unfolding_all rfl); (· wtm_at "nn"))
  | refine w_dget ?_ | refine w_din ?_ | refine w_dget1 ?_ | refine w_dput ?_ | refine w_dpop1 ?_ | refine w_lenSet ?_ | refine w_listRng ?_ | refine w_notInRng ?_
  | (apply w_inK; (· wtm_at "dk"); (· with_unfolding_all rfl)) | (apply w_inT; (· wtm_at "dk"); (· with_unfolding_all exact keyT_lit))
  | (apply w_lkK; (· wtm_at "dk"); (· with_unfolding_all rfl); (· first | exact lv_web | exact lv_age | exact lv_room | exact lv_spots | exact lv_known | exact lv_time)) | (apply w_isK; (· wtm_at "dk")) | (apply w_isT; (· wtm_at "dk"))
  | (apply w_putK; (· wtm_at "lk"); (· with_unfolding_all rfl); (· wtm_at "nn")) | (apply w_putT; (· wtm_at "lk"); (· with_unfolding_all exact keyT_lit); (· wtm_at "nn")))
local macro_rules | `(tactic| wtm_at "bb") => `(tactic| (simp only [isN, Bool.not_true, Bool.not_false, Bool.or_true, Bool.true_or, Bool.or_false, Bool.false_or, Bool.xor_true, Bool.xor_false]; done))
local macro_rules | `(tactic| wtm_at "kt") => `(tactic| with_reducible first | exact kb_tu_tu | exact kb_tu_li | exact kb_tu_bo | exact kb_tu_st | exact kb_tu_in | exact kb_li_tu | exact kb_li_li | exact kb_li_bo | exact kb_li_st | exact kb_li_in | exact kb_No_tu | exact kb_No_li | exact kb_No_bo | exact kb_No_st | exact kb_No_in | exact kb_bo_tu | exact kb_bo_li | exact kb_bo_bo | exact kb_bo_st | exact kb_bo_in | exact kb_in_tu | exact kb_in_li | exact kb_in_bo | exact kb_in_st | exact kb_in_in | exact kb_st_tu | exact kb_st_li | exact kb_st_bo | exact kb_st_st | exact kb_st_in)
local macro_rules | `(tactic| wtm_at "ty") => `(tactic| first | assumption | exact ty_ref (by wtm_at "lk") | (with_unfolding_all exact rfl))
local macro_rules | `(tactic| wtm_at "x") => `(tactic| with_reducible first
  | (apply w_taken; (· wtm_at "lk"); (· wtm_at "nn"); (· wtm_at "nn")) | (apply w_eqD; (· wtm_at "vl"); (· wtm_at "vl"); (· wtm_at "pl"); (· wtm_at "pl")) | (apply w_neD; (· wtm_at "vl"); (· wtm_at "vl"); (· wtm_at "pl"); (· wtm_at "pl"))
  | (apply vR_row; (· assumption)) | (refine vR_frz (by assumption) ?_) | refine frz_let ?_ | refine w_isi ?_ | refine w_isi2 ?_ | (apply w_isiE; (· wtm_at "ty"); (· wtm_at "kt")) | (apply w_isiE2; (· wtm_at "ty"); (· wtm_at "kt"); (· wtm_at "kt"))
  | refine w_iteT rfl ?_ | refine w_iteF rfl ?_ | (apply w_iteT; (· wtm_at "bb")) | (apply w_iteF; (· wtm_at "bb")))
local macro_rules | `(tactic| wtm_at "w") => `(tactic| repeat (first | wtm_at "1" | wtm_at "x"))
theorem mem_srt {kn : Mg.Kn} (nd : (Mg.kKeys kn).Nodup) {h : Int} {v : Int × Int} : (h, v) ∈ Mg.srt kn ↔ Mg.kGet kn h = some v := by
  rw [(Mg.srt_perm nd).mem_iff, Mg.kn_mem nd]
theorem kn_nd {st : Mg.NS} (hok : NOk st) {b : Int} (h0 : 0 ≤ b) (h1 : b < st.n) : (Mg.kKeys (Mg.knAt st b)).Nodup := by
  have hkl := hok.kl
  exact (hok.kn _ (List.mem_of_getElem? (kn_at (st := st) h0 (by omega)))).nd
theorem mem_wrong {st : Mg.NS} (hok : NOk st) {t : Int} {q : Int × (Int × Int)} : q ∈ wrongF st t ↔ 0 ≤ q.1 ∧ q.1 < st.n ∧ ∃ seen, Mg.kGet (Mg.knAt st q.1) q.2.1 = some (q.2.2, seen) ∧ t ≤ seen + st.age ∧ ¬ Leads st q.1 q.2.2 q.2.1 := by
  have n1 := hok.web.n1
  unfold wrongF
  rw [List.mem_flatMap]
  constructor
  · rintro ⟨b, hb, hq⟩
    rw [List.mem_range] at hb
    unfold wrongAt at hq
    rw [List.mem_filterMap] at hq
    obtain ⟨⟨h, d, seen⟩, hr, e⟩ := hq
    obtain ⟨⟨c1, c2⟩, rfl⟩ := wrongP_some e
    dsimp only at c1 c2 ⊢
    exact ⟨by omega, by omega, seen, (mem_srt (kn_nd hok (by omega) (by omega))).mp hr, c1, c2⟩
  · rintro ⟨h0, h1, seen, e, c1, c2⟩
    refine ⟨q.1.toNat, by rw [List.mem_range]; omega, ?_⟩
    rw [Int.toNat_of_nonneg h0]
    unfold wrongAt
    rw [List.mem_filterMap]
    exact ⟨(q.2.1, (q.2.2, seen)), (mem_srt (kn_nd hok h0 h1)).mpr e, wrongP_yes c1 c2⟩
theorem wrong_len {st : Mg.NS} (hok : NOk st) {t : Int} : (wrongF st t).length ≤ 48 := by
  have n1 := hok.web.n1
  have n6 := hok.web.n6
  have key : ∀ k : Nat, (k : Int) ≤ st.n → ((List.range k).flatMap fun (b : Nat) => wrongAt st t (b : Int)).length ≤ 8 * k := by
    intro k
    induction k with
    | zero => simp
    | succ k ih =>
      intro hk
      have := ih (by omega)
      have := wrongAt_len hok (t := t) (b := (k : Int)) (by omega) (by omega)
      rw [flat_succ, List.length_append]
      omega
  have := key st.n.toNat (by omega)
  unfold wrongF
  omega
theorem fm_some {α β : Type} (f : α → β) : ∀ xs : List α, xs.filterMap (fun x => some (f x)) = xs.map f
  | [] => rfl
  | x :: xs => by rw [List.filterMap_cons, List.map_cons, fm_some f xs]
theorem r_until {K : PySem.W.Frag} : Rd 5 (b_until K) (sp_until K) := by
  rintro _ G Q ⟨a, st, rfl, hv, hok, q⟩ F H σ is hg
  obtain ⟨th, G1, rfl, ho, hg1, hn, hout, fin⟩ := netV_view hv hg
  refine ⟨F, _, G1, Ext.refl F H, is, hg1, ?_⟩
  wtm_at "st"
  unfold b_until
  have ga := ho.ga
  have hkl := hok.kl
  have hv1 : NetV K G1 th.a st := .inr ⟨th, rfl, ho⟩
  have hwl := wrong_len hok (t := st.now)
  wtm_at "w"
  refine w_wrong hv1 hok (Int.le_refl _) hok.t1000 fun p hp => ?_
  have hpn := ho.fresh hp
  have o1 := ho.new (x := .sm (.lst ((wrongF st st.now).map triD))) hp
  have g1p : ud G1 p (.sm (.lst ((wrongF st st.now).map triD))) p = some (.sm (.lst ((wrongF st st.now).map triD))) := ud_same
  wtm_at "w"
  refine lc_over (fun q => some (.int (((Mg.kGet (Mg.knAt st q.1) q.2.1).getD (0, 0)).2 + st.age + 1))) (by omega) (fun y acc hy => ?_) ?_ ?_
  · exact lst_ref ((ud_ne (fun z => by rw [← z, g1p] at hy; cases hy)).trans g1p)
  · rintro r y acc N M hr hy hN hM
    obtain ⟨r0, r1, seen, hk, _, _⟩ := (mem_wrong hok).mp hr
    have o2 := o1.new (x := .sm (.lst acc)) hy
    have ga2 := o2.ga
    have gk2 := o2.gk
    obtain ⟨d, hd, had⟩ := refs_at (ds := th.ds) r0 (by rw [ho.len]; omega)
    have gd2 := o2.gd hd (kn_at r0 (by omega))
    wtm_at "w"
    refine w_ixL (lst_ref gk2) had ?_
    wtm_at "w"
    refine w_lkK (dK_own gd2) rfl (by rw [valD_kv, hk]; rfl) ?_
    wtm_at "w"
    exact hN _ (by rw [hk]; rfl)
  · intro y hy
    rw [fm_some (fun r : Int × (Int × Int) => D.int (((Mg.kGet (Mg.knAt st r.1) r.2.1).getD (0, 0)).2 + st.age + 1))]
    have hyp : y ≠ p := fun z => by rw [z, g1p] at hy; cases hy
    have hyn := o1.fresh hy
    have o2 := o1.new (x := .sm (.lst ((wrongF st st.now).map fun r => D.int (((Mg.kGet (Mg.knAt st r.1) r.2.1).getD (0, 0)).2 + st.age + 1)))) hy
    have ga2 := o2.ga
    have gy : ud (ud G1 p (.sm (.lst ((wrongF st st.now).map triD)))) y (.sm (.lst ((wrongF st st.now).map fun r => D.int (((Mg.kGet (Mg.knAt st r.1) r.2.1).getD (0, 0)).2 + st.age + 1)))) y = some (.sm (.lst ((wrongF st st.now).map fun r => D.int (((Mg.kGet (Mg.knAt st r.1) r.2.1).getD (0, 0)).2 + st.age + 1)))) := ud_same
    wtm_at "w"
    refine w_cat (lst_ref gy) rfl (by simp; omega) ?_
    wtm_at "w"
    have e : ((wrongF st st.now).map fun r => D.int (((Mg.kGet (Mg.knAt st r.1) r.2.1).getD (0, 0)).2 + st.age + 1)) ++ [D.int st.now] = (untilL st).map D.int := by
      unfold untilL
      rw [List.map_append, List.map_map]
      rfl
    rw [e]
    refine w_maxL rfl (by unfold untilL; simp) fun m hm1 hm2 => ?_
    refine fin Q _ _ G (fun b hb => ?_) (fun b x hb hx => ?_) (fun _ _ => rfl) (q m ⟨hm1, hm2⟩)
    · rw [ud_ne (fun (z : b = y) => hyn (by rw [← z]; exact hb)), ud_ne (fun (z : b = p) => hpn (by rw [← z]; exact hb))]
    · rw [ud_ne (fun z => ?_), ud_ne (fun z => ?_), hout b hb]
      · exact hx
      · rw [z, hn p hp] at hx; cases hx
      · rw [ud_ne hyp] at hy
        rw [z, hn y hy] at hx; cases hx
end Dg
namespace Dg
open PySem PySem.Spec L2
local macro_rules | `(tactic| wtm_at "ne") => `(tactic| first | assumption | (apply Ne.symm; assumption) | (grind [ud, er]))
local macro_rules | `(tactic| wtm_at "lk") => `(tactic| first | (with_reducible assumption) | (with_reducible exact ud_same) | ((with_reducible refine (ud_ne (by wtm_at "ne")).trans ?_); wtm_at "lk"))
local macro_rules | `(tactic| wtm_at "gl") => `(tactic| first | (with_reducible assumption) | (with_reducible exact lst_ref (by wtm_at "lk")) | (with_reducible exact lstOf_new (by assumption) (by assumption)) | (with_unfolding_all exact rfl))
local macro_rules | `(tactic| wtm_at "vl") => `(tactic| first | (with_reducible exact val_ref (by wtm_at "lk")) | (with_unfolding_all exact rfl))
local macro_rules | `(tactic| wtm_at "dk") => `(tactic| with_reducible first | exact dK_own (by wtm_at "lk") | exact dK_lk (by wtm_at "lk") | exact dT_own (by wtm_at "lk"))
local macro_rules | `(tactic| wtm_at "pl") => `(tactic| with_unfolding_all first | exact rfl | exact all_int _ | exact all_P2 _ | assumption)
local macro_rules | `(tactic| wtm_at "nn") => `(tactic| first | omega | decide | (simp only [List.length_cons, List.length_nil, List.length_map, List.length_append]; omega) | grind)
local macro_rules | `(tactic| wtm_at "st") => `(tactic| (simp only [stD, List.map_cons, List.map_nil, List.length_cons, List.length_nil, List.replicate, Nat.reduceAdd, Nat.reduceSub, List.cons_append, List.nil_append]))
local macro_rules | `(tactic| wtm_at "1") => `(tactic| with_reducible first
  | refine w_seq ?_ | refine w_asgN ?_ | refine w_asgS ?_ | refine w_asgT ?_ | refine w_ret ?_ | refine w_drop ?_ | refine w_ifS ?_ | refine w_test ?_ | refine w_next ?_
  | refine w_nx ?_ | refine w_nx0 ?_ | refine w_rt ?_ | refine w_bk ?_ | refine w_ct ?_
  | refine w_bl2 ?_ | refine w_and ?_ | refine w_or ?_ | refine w_not ?_ | refine w_andV ?_ | refine w_orV ?_ | refine w_notV ?_ | refine w_if ?_
  | (apply w_var; (· with_unfolding_all rfl)) | refine w_c ?_ | refine w_op ?_ | refine w_chain ?_ | refine w_nil ?_ | refine w_cons ?_ | refine w_tup ?_ | refine w_lst ?_
  | (apply w_len; (· wtm_at "nn")) | refine w_call ?_ | refine w_cb ?_ | refine w_isN ?_ | refine w_notN ?_ | refine w_fz ?_
  | refine w_add ?_ | refine w_sub ?_ | refine w_lt ?_ | refine w_le ?_ | refine w_gt ?_ | refine w_ge ?_ | (apply w_mod; (· wtm_at "nn")) | (apply w_div; (· wtm_at "nn"); (· wtm_at "nn"))
  | (apply w_eq; (· with_unfolding_all rfl)) | (apply w_ne; (· with_unfolding_all rfl))
  | (apply w_ixT; (· with_unfolding_all rfl)) | (apply w_ixL; (· wtm_at "gl"); (· with_unfolding_all rfl))
  | refine w_lenT ?_ | (apply w_lenL; (· wtm_at "gl")) | refine w_min2 ?_ | refine w_max2 ?_ | refine w_intB ?_ | (apply w_tupleL; (· wtm_at "gl"))
  | refine w_bm ?_ | refine w_bm0 ?_ | (apply w_ty; (· wtm_at "gl"))
  | (apply w_setL; (· wtm_at "lk"); (· with_unfolding_all rfl)) | (apply w_append; (· wtm_at "lk"); (· wtm_at "nn")) | (apply w_extend; (· wtm_at "lk"); (· wtm_at "gl"); (· wtm_at "nn"))
  | refine w_hcons ?_ | refine w_hnil ?_ | refine w_hname ?_ | (apply w_htup; (· with_unfolding_all rfl)) | (apply w_exT; (· with_unfolding_all rfl))
  | refine w_lcR1 ?_ | refine w_lcL ?_ | refine w_lcT ?_ | refine w_forR1 ?_ | refine w_forR2 ?_ | refine w_forL ?_ | refine w_forT ?_ | refine w_yes ?_ | refine w_cnm ?_ | (apply w_ctp; (· with_unfolding_all rfl))
  | (apply w_exL; (· wtm_at "gl")) | refine w_exTu ?_ | (apply w_exI; (· wtm_at "nn")) | (apply w_exI2; (· wtm_at "nn")) | refine w_exII ?_
  | refine w_lcK ?_ | refine w_fld ?_ | refine w_fldS ?_ | refine w_meth ?_ | refine w_make ?_ | (apply w_fldE; (· wtm_at "lk"); (· with_unfolding_all rfl)) | (apply w_fldSE; (· wtm_at "lk"); (· first | exact insF_lt | (with_unfolding_all exact Nat.le_of_ble_eq_true rfl) | wtm_at "nn")) | (apply w_lenD; (· wtm_at "lk"))
  | refine w_disp ?_ | refine w_pnil ?_ | refine w_pcons ?_ | (apply w_dispE; (· wtm_at "lk"); (· with_unfolding_all rfl); (· wtm_at "nn"))
  | refine w_dget ?_ | refine w_din ?_ | refine w_dget1 ?_ | refine w_dput ?_ | refine w_dpop1 ?_ | refine w_lenSet ?_ | refine w_listRng ?_ | refine w_notInRng ?_
  | (apply w_inK; (· wtm_at "dk"); (· with_unfolding_all rfl)) | (apply w_inT; (· wtm_at "dk"); (· with_unfolding_all exact keyT_lit))
  | (apply w_lkK; (· wtm_at "dk"); (· with_unfolding_all rfl); (· first | exact lv_web | exact lv_age | exact lv_room | exact lv_spots | exact lv_known | exact lv_time)) | (apply w_isK; (· wtm_at "dk")) | (apply w_isT; (· wtm_at "dk"))
  | (apply w_putK; (· wtm_at "lk"); (· with_unfolding_all rfl); (· wtm_at "nn")) | (apply w_putT; (· wtm_at "lk"); (· with_unfolding_all exact keyT_lit); (· wtm_at "nn")))
local macro_rules | `(tactic| wtm_at "bb") => `(tactic| (simp only [isN, Bool.not_true, Bool.not_false, Bool.or_true, Bool.true_or, Bool.or_false, Bool.false_or, Bool.xor_true, Bool.xor_false]; done))
local macro_rules | `(tactic| wtm_at "kt") => `(tactic| with_reducible first | exact kb_tu_tu | exact kb_tu_li | exact kb_tu_bo | exact kb_tu_st | exact kb_tu_in | exact kb_li_tu | exact kb_li_li | exact kb_li_bo | exact kb_li_st | exact kb_li_in | exact kb_No_tu | exact kb_No_li | exact kb_No_bo | exact kb_No_st | exact kb_No_in | exact kb_bo_tu | exact kb_bo_li | exact kb_bo_bo | exact kb_bo_st | exact kb_bo_in | exact kb_in_tu | exact kb_in_li | exact kb_in_bo | exact kb_in_st | exact kb_in_in | exact kb_st_tu | exact kb_st_li | exact kb_st_bo | exact kb_st_st | exact kb_st_in)
local macro_rules | `(tactic| wtm_at "ty") => `(tactic| first | assumption | exact ty_ref (by wtm_at "lk") | (with_unfolding_all exact rfl))
local macro_rules | `(tactic| wtm_at "x") => `(tactic| with_reducible first
  | (apply w_taken; (· wtm_at "lk"); (· wtm_at "nn"); (· wtm_at "nn")) | (apply w_eqD; (· wtm_at "vl"); (· wtm_at "vl"); (· wtm_at "pl"); (· wtm_at "pl")) | (apply w_neD; (· wtm_at "vl"); (· wtm_at "vl"); (· wtm_at "pl"); (· wtm_at "pl"))
  | (apply vR_row; (· assumption)) | (refine vR_frz (by assumption) ?_) | refine frz_let ?_ | refine w_isi ?_ | refine w_isi2 ?_ | (apply w_isiE; (· wtm_at "ty"); (· wtm_at "kt")) | (apply w_isiE2; (· wtm_at "ty"); (· wtm_at "kt"); (· wtm_at "kt"))
  | refine w_iteT rfl ?_ | refine w_iteF rfl ?_ | (apply w_iteT; (· wtm_at "bb")) | (apply w_iteF; (· wtm_at "bb")))
local macro_rules | `(tactic| wtm_at "w") => `(tactic| repeat (first | wtm_at "1" | wtm_at "x"))
theorem w_sortSet {s : DSt} {G : Gp} {Q : DK} {ta : DE} (h : ta s G fun x G1 => ∃ ns : List Int, lstOf G1 x = some (ns.map D.int) ∧ ns.length < 60 ∧ ∀ (ms : List Int) (p : Addr), ms.Pairwise (· < ·) → (∀ k, k ∈ ms ↔ k ∈ ns) → G1 p = none → Q (.ref p) (ud G1 p (.sm (.lst (ms.map D.int))))) : dSortSet ta s G Q := h
theorem near_at {f : List (List Int)} {u : Int} (h0 : 0 ≤ u) (h1 : u < f.length) : atI (f.map nearD) u = some (nearD (Mg.gL f u)) := by
  have hl : u.toNat < f.length := by omega
  unfold Mg.gL
  rw [atI_pos h0 (by rw [List.length_map]; exact h1), List.getElem?_map, List.getD_eq_getElem?_getD, List.getElem?_eq_getElem hl]
  rfl
theorem nodup_lt {xs : List Int} (h : xs.Pairwise (· < ·)) : xs.Nodup := h.imp fun z => by omega
theorem JI.small {E : Mg.En} {c : Option Int} {n : Nat} {f : List (List Int)} (j : Mg.JI E c n f) {u : Int} (u0 : 0 ≤ u) (un : u < (n : Int)) : (Mg.gL f u).length ≤ n := Mg.nodup_le (nodup_lt (j.ri u u0 un)) (j.rg u u0 un)
theorem near_mem {n : Int} {ls : List Mg.Lk} {c : Option Int} {u v : Int} : v ∈ nearF n ls c u ↔ (0 ≤ v ∧ v < n) ∧ Mg.Rc (Mg.eGet ls) c u v := by
  unfold nearF Mg.rangeI
  rw [List.mem_filter, List.mem_map]
  simp only [List.mem_range, decide_eq_true_eq]
  constructor
  · rintro ⟨⟨k, hk, rfl⟩, h⟩
    exact ⟨by omega, h⟩
  · rintro ⟨h1, h2⟩
    exact ⟨⟨v.toNat, by omega, by omega⟩, h2⟩
theorem near_ris {n : Int} {ls : List Mg.Lk} {c : Option Int} {u : Int} : (nearF n ls c u).Pairwise (· < ·) := by
  unfold nearF Mg.rangeI
  refine List.Pairwise.filter _ ?_
  rw [List.pairwise_map]
  exact List.pairwise_lt_range.imp fun h => by omega
theorem rc_rg {n : Int} {ls : List Mg.Lk} (hw : WebOk n ls) {c : Option Int} {u v : Int} (h0 : 0 ≤ u) (h1 : u < n) (r : Mg.Rc (Mg.eGet ls) c u v) : 0 ≤ v ∧ v < n := by
  induction r with
  | refl => exact ⟨h0, h1⟩
  | tail _ s _ =>
    obtain ⟨⟨x, y, e⟩, _⟩ := s
    have := eGet_ok hw e
    exact ⟨this.1, this.2.1⟩
theorem joined_eq {n : Int} {ls : List Mg.Lk} {c : Option Int} (hw : WebOk n ls) {f : List (List Int)} (j : Mg.JI (Mg.eGet ls) c n.toNat f) (d : ∀ l ∈ ls, Mg.Dn c f l) : f.map nearD = (Mg.rangeI n.toNat).map fun u => nearD (nearF n ls c u) := by
  have n1 := hw.n1
  refine List.ext_getElem? fun i => ?_
  rw [List.getElem?_map, List.getElem?_map]
  by_cases hi : i < n.toNat
  · have hl : i < f.length := by rw [j.len]; exact hi
    unfold Mg.rangeI
    rw [List.getElem?_eq_getElem hl, List.getElem?_map, List.getElem?_range hi]
    simp only [Option.map_some]
    congr 2
    have e : Mg.gL f (i : Int) = f[i] := by
      unfold Mg.gL
      rw [Int.toNat_natCast, List.getD_eq_getElem?_getD, List.getElem?_eq_getElem hl]
      rfl
    rw [← e]
    refine Mg.rising_same (j.ri (i : Int) (by omega) (by omega)) near_ris fun v => ?_
    rw [near_mem, j.all (fun u v h => (adjc_iff hw).mp h) d (fun u v h => by
      obtain ⟨⟨x, y, e⟩, _⟩ := h
      have := eGet_ok hw e
      omega) (by omega) (by omega)]
    exact ⟨fun r => ⟨rc_rg hw (by omega) (by omega) r, r⟩, fun r => r.2⟩
  · rw [List.getElem?_eq_none (by rw [j.len]; omega), List.getElem?_eq_none (by simp [Mg.rangeI]; omega)]
    rfl
theorem opt_in {c : Option Int} {a b : Int} : optD c ∈ [D.int a, D.int b] ↔ c = some a ∨ c = some b := by
  rw [List.mem_cons, List.mem_singleton, eq_comm, optD_inj, eq_comm (b := D.int b), optD_inj]
theorem r_L_joined {K : PySem.W.Frag} : Rd 10 (b_L_joined K) (sp_L_joined K) := by
  rintro _ G Q ⟨n, ls, c, rfl, hw, q⟩
  have n1 := hw.n1
  have n6 := hw.n6
  wtm_at "st"
  refine vN0 ?_
  unfold b_L_joined
  wtm_at "w"
  refine lc_pure (fun i => some (nearD [(i : Int)])) (by omega) (fun _ _ _ => trivial) ?_ ?_
  · rintro i d p acc N M hi rfl hp hN hM
    wtm_at "w"
    rw [Int.zero_add]
    exact hN _ rfl
  · intro pf hpf
    rw [fm_some (fun (i : Nat) => nearD [(i : Int)])]
    have e0 : (List.range n.toNat).map (fun (i : Nat) => nearD [(i : Int)]) = ((Mg.rangeI n.toNat).map fun u => [u]).map nearD := by
      unfold Mg.rangeI
      rw [List.map_map, List.map_map]
      rfl
    rw [e0]
    let GG : List (List Int) → Gp := fun f => ud G pf (.sm (.lst (f.map nearD)))
    have gg : ∀ f, GG f pf = some (.sm (.lst (f.map nearD))) := fun f => ud_same
    wtm_at "w"
    refine for_st (fun i f => Mg.JI (Mg.eGet ls) c n.toNat f ∧ (0 < i → ∀ l ∈ ls, Mg.Dn c f l)) (fun _ => [some (webD n ls), some (optD c), some (.ref pf), none, none, none, none, none, none, none]) GG _ ⟨Mg.JI.start, fun h => absurd h (by omega)⟩ rfl rfl (fun _ _ _ _ => trivial) ?_ ?_
    · rintro i _ f hi rfl ⟨ji, dn⟩
      wtm_at "w"
      rw [List.length_map]
      refine for_st (fun j f => Mg.JI (Mg.eGet ls) c n.toNat f ∧ (∀ l ∈ ls.take j, Mg.Dn c f l)) (fun _ => [some (webD n ls), some (optD c), some (.ref pf), none, some (.int (0 + (i : Int))), none, none, none, none, none]) GG f ⟨ji, by simp⟩ rfl rfl (fun _ _ _ _ => trivial) ?_ ?_
      · rintro j d f hj hit ⟨ji, dn⟩
        have hd : d = (ls[j]).d := by
          rw [List.getElem?_map, List.getElem?_eq_getElem hj] at hit
          exact (Option.some.inj hit).symm
        subst hd
        have hlm : ls[j] ∈ ls := List.getElem_mem hj
        have htk : ls.take (j + 1) = ls.take j ++ [ls[j]] := by rw [List.take_succ, List.getElem?_eq_getElem hj]; rfl
        have hlr : ∀ l ∈ ls.take j, 0 ≤ l.a ∧ l.a < (n.toNat : Int) ∧ 0 ≤ l.b ∧ l.b < (n.toNat : Int) := fun l hl => by
          have ok := hw.ok l (List.mem_of_mem_take hl)
          have := ok.a0
          have := ok.an
          have := ok.b0
          have := ok.bn
          omega
        generalize ls[j] = l at *
        have ok := hw.ok l hlm
        have a0 := ok.a0
        have an := ok.an
        have b0 := ok.b0
        have bn := ok.bn
        have hfl := ji.len
        wtm_at "w"
        refine w_inFT fl_opt rfl fun r hr => ?_
        rw [opt_in] at hr
        rw [bx_t]
        wtm_at "w"
        refine w_ite (fun c1 => ?_) (fun c1 => ?_)
        · have hcl : c ≠ some l.a ∧ c ≠ some l.b := ⟨fun z => (by rw [hr.mpr (.inl z)] at c1; cases c1), fun z => (by rw [hr.mpr (.inr z)] at c1; cases c1)⟩
          have ad : Mg.AdjE (Mg.eGet ls) c l.a l.b := (adjc_iff hw).mpr ⟨l, hlm, .inl ⟨rfl, rfl⟩, hcl.1, hcl.2⟩
          have s1 := JI.small ji a0 (by omega)
          have s2 := JI.small ji b0 (by omega)
          wtm_at "w"
          refine w_sortSet ?_
          wtm_at "w"
          refine w_ixL (lst_ref (gg f)) (near_at a0 (by rw [hfl]; omega)) ?_
          wtm_at "w"
          refine w_ixL (lst_ref (gg f)) (near_at b0 (by rw [hfl]; omega)) ?_
          refine w_cat rfl rfl (by simp only [List.length_map]; omega) ?_
          rw [← List.map_append]
          wtm_at "w"
          refine ⟨Mg.gL f l.a ++ Mg.gL f l.b, rfl, by rw [List.length_append]; omega, fun ms p hms hmm hp => ?_⟩
          obtain ⟨k1, k2, k3⟩ := ji.step (fun a b => Mg.AdjE.symm (enOk hw) a b) a0 (by omega) b0 (by omega) ad hms hmm
          have hmr : ∀ v ∈ ms, 0 ≤ v ∧ v < (n.toNat : Int) := fun v hv => by
            rcases List.mem_append.mp ((hmm v).mp hv) with z | z
            · exact ji.rg l.a a0 (by omega) v z
            · exact ji.rg l.b b0 (by omega) v z
          refine vR_frz hp ?_
          wtm_at "w"
          rw [List.length_map]
          refine for_st (fun k g => g = Mg.setAll f (ms.take k) ms) (fun _ => [some (webD n ls), some (optD c), some (.ref pf), none, some (.int (0 + (i : Int))), some (.int l.a), some (.int l.x), some (.int l.b), some (.int l.y), some (.lst (ms.map D.int))]) GG f rfl rfl rfl (fun _ _ _ _ => rfl) ?_ ?_
          · rintro k d g hk hit rfl
            obtain ⟨hk2, rfl⟩ := ints_at hit
            have hv := hmr _ (List.getElem_mem hk2)
            have hsn : Mg.setAll f (ms.take (k + 1)) ms = (Mg.setAll f (ms.take k) ms).set (ms[k]).toNat ms := by
              unfold Mg.setAll
              rw [List.take_succ, List.getElem?_eq_getElem hk2]
              exact foldl_snoc _ _ _ _
            generalize ms[k] = v at *
            have hsl : (Mg.setAll f (ms.take k) ms).length = f.length := Mg.setAll_len
            wtm_at "w"
            refine w_setL (gg _) (ixN_pos hv.1 (by rw [List.length_map, hsl, hfl]; exact hv.2)) ?_
            wtm_at "w"
            refine w_se _ rfl (.keep (.keep (.keep (.drop (.keep (.keep (.keep (.keep (.keep (.keep .refl)))))))))) ?_
            show ud (ud G pf _) pf _ = ud G pf _
            rw [ud_ud, hsn, List.map_set]
            rfl
          · rintro g rfl
            rw [List.take_length]
            wtm_at "w"
            refine w_se _ ⟨k1, fun m hm => ?_⟩ (.keep (.keep (.keep (.drop (.keep (.drop (.drop (.drop (.drop (.drop .refl)))))))))) rfl
            rw [htk] at hm
            rcases List.mem_append.mp hm with z | z
            · exact k3 m (hlr m z) (dn m z)
            · simp only [List.mem_singleton] at z
              rw [z]
              exact fun _ _ => k2
        · have hcl : c = some l.a ∨ c = some l.b := hr.mp (by simpa using c1)
          wtm_at "w"
          refine w_se f ⟨ji, fun m hm => ?_⟩ (.keep (.keep (.keep (.keep (.keep (.drop (.drop (.drop (.drop (.keep .refl)))))))))) rfl
          rw [htk] at hm
          rcases List.mem_append.mp hm with z | z
          · exact dn m z
          · simp only [List.mem_singleton] at z
            rw [z]
            intro h1 h2
            rcases hcl with w | w
            · exact absurd w h1
            · exact absurd w h2
      · rintro f ⟨ji, dn⟩
        rw [List.take_length] at dn
        wtm_at "w"
        exact w_se f ⟨ji, fun _ => dn⟩ (.keep (.keep (.keep (.drop (.drop (.drop (.drop (.drop (.drop (.drop .refl)))))))))) rfl
    · rintro f ⟨ji, dn⟩
      wtm_at "w"
      have e := joined_eq hw ji (dn (by omega))
      show vRt Q (.ref pf) (ud G pf (.sm (.lst (f.map nearD))))
      rw [e]
      exact vR_frz hpf q
end Dg
namespace Dg
open PySem PySem.Spec L2
local macro_rules | `(tactic| wtm_at "ne") => `(tactic| first | assumption | (apply Ne.symm; assumption) | (grind [ud, er]))
local macro_rules | `(tactic| wtm_at "lk") => `(tactic| first | (with_reducible assumption) | (with_reducible exact ud_same) | ((with_reducible refine (ud_ne (by wtm_at "ne")).trans ?_); wtm_at "lk"))
local macro_rules | `(tactic| wtm_at "gl") => `(tactic| first | (with_reducible assumption) | (with_reducible exact lst_ref (by wtm_at "lk")) | (with_reducible exact lstOf_new (by assumption) (by assumption)) | (with_unfolding_all exact rfl))
local macro_rules | `(tactic| wtm_at "vl") => `(tactic| first | (with_reducible exact val_ref (by wtm_at "lk")) | (with_unfolding_all exact rfl))
local macro_rules | `(tactic| wtm_at "dk") => `(tactic| with_reducible first | exact dK_own (by wtm_at "lk") | exact dK_lk (by wtm_at "lk") | exact dT_own (by wtm_at "lk"))
local macro_rules | `(tactic| wtm_at "pl") => `(tactic| with_unfolding_all first | exact rfl | exact all_int _ | exact all_P2 _ | assumption)
local macro_rules | `(tactic| wtm_at "nn") => `(tactic| first | omega | decide | (simp only [List.length_cons, List.length_nil, List.length_map, List.length_append]; omega) | grind)
local macro_rules | `(tactic| wtm_at "st") => `(tactic| (simp only [stD, List.map_cons, List.map_nil, List.length_cons, List.length_nil, List.replicate, Nat.reduceAdd, Nat.reduceSub, List.cons_append, List.nil_append]))
local macro_rules | `(tactic| wtm_at "1") => `(tactic| with_reducible first
  | refine w_seq ?_ | refine w_asgN ?_ | refine w_asgS ?_ | refine w_asgT ?_ | refine w_ret ?_ | refine w_drop ?_ | refine w_ifS ?_ | refine w_test ?_ | refine w_next ?_
  | refine w_nx ?_ | refine w_nx0 ?_ | refine w_rt ?_ | refine w_bk ?_ | refine w_ct ?_
  | refine w_bl2 ?_ | refine w_and ?_ | refine w_or ?_ | refine w_not ?_ | refine w_andV ?_ | refine w_orV ?_ | refine w_notV ?_ | refine w_if ?_
  | (apply w_var; (· with_unfolding_all rfl)) | refine w_c ?_ | refine w_op ?_ | refine w_chain ?_ | refine w_nil ?_ | refine w_cons ?_ | refine w_tup ?_ | refine w_lst ?_
  | (apply w_len; (· wtm_at "nn")) | refine w_call ?_ | refine w_cb ?_ | refine w_isN ?_ | refine w_notN ?_ | refine w_fz ?_
  | refine w_add ?_ | refine w_sub ?_ | refine w_lt ?_ | refine w_le ?_ | refine w_gt ?_ | refine w_ge ?_ | (apply w_mod; (· wtm_at "nn")) | (apply w_div; (· wtm_at "nn"); (· wtm_at "nn"))
  | (apply w_eq; (· with_unfolding_all rfl)) | (apply w_ne; (· with_unfolding_all rfl))
  | (apply w_ixT; (· with_unfolding_all rfl)) | (apply w_ixL; (· wtm_at "gl"); (· with_unfolding_all rfl))
  | refine w_lenT ?_ | (apply w_lenL; (· wtm_at "gl")) | refine w_min2 ?_ | refine w_max2 ?_ | refine w_intB ?_ | (apply w_tupleL; (· wtm_at "gl"))
  | refine w_bm ?_ | refine w_bm0 ?_ | (apply w_ty; (· wtm_at "gl"))
  | (apply w_setL; (· wtm_at "lk"); (· with_unfolding_all rfl)) | (apply w_append; (· wtm_at "lk"); (· wtm_at "nn")) | (apply w_extend; (· wtm_at "lk"); (· wtm_at "gl"); (· wtm_at "nn"))
  | refine w_hcons ?_ | refine w_hnil ?_ | refine w_hname ?_ | (apply w_htup; (· with_unfolding_all rfl)) | (apply w_exT; (· with_unfolding_all rfl))
  | refine w_lcR1 ?_ | refine w_lcL ?_ | refine w_lcT ?_ | refine w_forR1 ?_ | refine w_forR2 ?_ | refine w_forL ?_ | refine w_forT ?_ | refine w_yes ?_ | refine w_cnm ?_ | (apply w_ctp; (· with_unfolding_all rfl))
  | (apply w_exL; (· wtm_at "gl")) | refine w_exTu ?_ | (apply w_exI; (· wtm_at "nn")) | (apply w_exI2; (· wtm_at "nn")) | refine w_exII ?_
  | refine w_lcK ?_ | refine w_fld ?_ | refine w_fldS ?_ | refine w_meth ?_ | refine w_make ?_ | (apply w_fldE; (· wtm_at "lk"); (· with_unfolding_all rfl)) | (apply w_fldSE; (· wtm_at "lk"); (· first | exact insF_lt | (with_unfolding_all exact Nat.le_of_ble_eq_true rfl) | wtm_at "nn")) | (apply w_lenD; (· wtm_at "lk"))
  | refine w_disp ?_ | refine w_pnil ?_ | refine w_pcons ?_ | (apply w_dispE; (· wtm_at "lk"); (· with_unfolding_all rfl); (· wtm_at "nn"))
  | refine w_dget ?_ | refine w_din ?_ | refine w_dget1 ?_ | refine w_dput ?_ | refine w_dpop1 ?_ | refine w_lenSet ?_ | refine w_listRng ?_ | refine w_notInRng ?_
  | (apply w_inK; (· wtm_at "dk"); (· with_unfolding_all rfl)) | (apply w_inT; (· wtm_at "dk"); (· with_unfolding_all exact keyT_lit))
  | (apply w_lkK; (· wtm_at "dk"); (· with_unfolding_all rfl); (· first | exact lv_web | exact lv_age | exact lv_room | exact lv_spots | exact lv_known | exact lv_time)) | (apply w_isK; (· wtm_at "dk")) | (apply w_isT; (· wtm_at "dk"))
  | (apply w_putK; (· wtm_at "lk"); (· with_unfolding_all rfl); (· wtm_at "nn")) | (apply w_putT; (· wtm_at "lk"); (· with_unfolding_all exact keyT_lit); (· wtm_at "nn")))
local macro_rules | `(tactic| wtm_at "bb") => `(tactic| (simp only [isN, Bool.not_true, Bool.not_false, Bool.or_true, Bool.true_or, Bool.or_false, Bool.false_or, Bool.xor_true, Bool.xor_false]; done))
local macro_rules | `(tactic| wtm_at "kt") => `(tactic| with_reducible first | exact kb_tu_tu | exact kb_tu_li | exact kb_tu_bo | exact kb_tu_st | exact kb_tu_in | exact kb_li_tu | exact kb_li_li | exact kb_li_bo | exact kb_li_st | exact kb_li_in | exact kb_No_tu | exact kb_No_li | exact kb_No_bo | exact kb_No_st | exact kb_No_in | exact kb_bo_tu | exact kb_bo_li | exact kb_bo_bo | exact kb_bo_st | exact kb_bo_in | exact kb_in_tu | exact kb_in_li | exact kb_in_bo | exact kb_in_st | exact kb_in_in | exact kb_st_tu | exact kb_st_li | exact kb_st_bo | exact kb_st_st | exact kb_st_in)
local macro_rules | `(tactic| wtm_at "ty") => `(tactic| first | assumption | exact ty_ref (by wtm_at "lk") | (with_unfolding_all exact rfl))
local macro_rules | `(tactic| wtm_at "x") => `(tactic| with_reducible first
  | (apply w_taken; (· wtm_at "lk"); (· wtm_at "nn"); (· wtm_at "nn")) | (apply w_eqD; (· wtm_at "vl"); (· wtm_at "vl"); (· wtm_at "pl"); (· wtm_at "pl")) | (apply w_neD; (· wtm_at "vl"); (· wtm_at "vl"); (· wtm_at "pl"); (· wtm_at "pl"))
  | (apply vR_row; (· assumption)) | (refine vR_frz (by assumption) ?_) | refine frz_let ?_ | refine w_isi ?_ | refine w_isi2 ?_ | (apply w_isiE; (· wtm_at "ty"); (· wtm_at "kt")) | (apply w_isiE2; (· wtm_at "ty"); (· wtm_at "kt"); (· wtm_at "kt"))
  | refine w_iteT rfl ?_ | refine w_iteF rfl ?_ | (apply w_iteT; (· wtm_at "bb")) | (apply w_iteF; (· wtm_at "bb")))
local macro_rules | `(tactic| wtm_at "w") => `(tactic| repeat (first | wtm_at "1" | wtm_at "x"))
theorem jn_at {n : Int} {f : Int → D} {u : Int} (h0 : 0 ≤ u) (h1 : u < n) : atI ((Mg.rangeI n.toNat).map f) u = some (f u) := by
  unfold Mg.rangeI
  have hl : u.toNat < n.toNat := by omega
  rw [atI_pos h0 (by rw [List.length_map, List.length_map, List.length_range]; omega), List.getElem?_map, List.getElem?_map, List.getElem?_range hl]
  simp only [Option.map_some]
  congr 2
  omega
theorem until_now {st : Mg.NS} {m : Int} (h : IsUntil st m) : st.now ≤ m := h.2 _ (by unfold untilL; simp)
theorem wrong_nil {st : Mg.NS} (hok : NOk st) {t : Int} (ht : st.now ≤ t) : wrongF st t = [] ↔ ∀ y ∈ untilL st, y ≤ t := by
  constructor
  · intro e y hy
    unfold untilL at hy
    rcases List.mem_append.mp hy with z | z
    · obtain ⟨q, hq, rfl⟩ := List.mem_map.mp z
      obtain ⟨q0, q1, seen, hk, h1, h2⟩ := (mem_wrong hok).mp hq
      rw [hk]
      show seen + st.age + 1 ≤ t
      have hn : q ∉ wrongF st t := by rw [e]; simp
      rw [mem_wrong hok] at hn
      by_cases c : t ≤ seen + st.age
      · exact absurd ⟨q0, q1, seen, hk, c, h2⟩ hn
      · omega
    · simp only [List.mem_singleton] at z
      omega
  · intro h
    rw [List.eq_nil_iff_forall_not_mem]
    intro q hq
    obtain ⟨q0, q1, seen, hk, h1, h2⟩ := (mem_wrong hok).mp hq
    have hq2 : q ∈ wrongF st st.now := (mem_wrong hok).mpr ⟨q0, q1, seen, hk, by omega, h2⟩
    have := h (seen + st.age + 1) (by
      unfold untilL
      refine List.mem_append_left _ (List.mem_map.mpr ⟨q, hq2, ?_⟩)
      rw [hk]
      rfl)
    omega
theorem until_end {st : Mg.NS} (hok : NOk st) {m : Int} (h : IsUntil st m) {t : Int} (h0 : st.now ≤ t) (h1 : t ≤ m) : wrongF st t = [] ↔ t = m := by
  rw [wrong_nil hok h0]
  constructor
  · intro z
    have := z m h.1
    omega
  · rintro rfl
    exact h.2
theorem w_until {K : PySem.W.Frag} {a : Addr} {st : Mg.NS} {G : Gp} {Q : DK} (hv : NetV K G a st) (hok : NOk st) (q : ∀ m, IsUntil st m → Q (.int m) G) : sp_until K [.ref a] G Q := ⟨a, st, rfl, hv, hok, q⟩
end Dg
namespace Dg
open PySem PySem.Spec L2
local macro_rules | `(tactic| wtm_at "ne") => `(tactic| first | assumption | (apply Ne.symm; assumption) | (grind [ud, er]))
local macro_rules | `(tactic| wtm_at "lk") => `(tactic| first | (with_reducible assumption) | (with_reducible exact ud_same) | ((with_reducible refine (ud_ne (by wtm_at "ne")).trans ?_); wtm_at "lk"))
local macro_rules | `(tactic| wtm_at "gl") => `(tactic| first | (with_reducible assumption) | (with_reducible exact lst_ref (by wtm_at "lk")) | (with_reducible exact lstOf_new (by assumption) (by assumption)) | (with_unfolding_all exact rfl))
local macro_rules | `(tactic| wtm_at "vl") => `(tactic| first | (with_reducible exact val_ref (by wtm_at "lk")) | (with_unfolding_all exact rfl))
local macro_rules | `(tactic| wtm_at "dk") => `(tactic| with_reducible first | exact dK_own (by wtm_at "lk") | exact dK_lk (by wtm_at "lk") | exact dT_own (by wtm_at "lk"))
local macro_rules | `(tactic| wtm_at "pl") => `(tactic| with_unfolding_all first | exact rfl | exact all_int _ | exact all_P2 _ | assumption)
local macro_rules | `(tactic| wtm_at "nn") => `(tactic| first | omega | decide | (simp only [List.length_cons, List.length_nil, List.length_map, List.length_append]; omega) | grind)
local macro_rules | `(tactic| wtm_at "st") => `(tactic| (simp only [stD, List.map_cons, List.map_nil, List.length_cons, List.length_nil, List.replicate, Nat.reduceAdd, Nat.reduceSub, List.cons_append, List.nil_append]))
local macro_rules | `(tactic| wtm_at "1") => `(tactic| with_reducible first
  | refine w_seq ?_ | refine w_asgN ?_ | refine w_asgS ?_ | refine w_asgT ?_ | refine w_ret ?_ | refine w_drop ?_ | refine w_ifS ?_ | refine w_test ?_ | refine w_next ?_
  | refine w_nx ?_ | refine w_nx0 ?_ | refine w_rt ?_ | refine w_bk ?_ | refine w_ct ?_
  | refine w_bl2 ?_ | refine w_and ?_ | refine w_or ?_ | refine w_not ?_ | refine w_andV ?_ | refine w_orV ?_ | refine w_notV ?_ | refine w_if ?_
  | (apply w_var; (· with_unfolding_all rfl)) | refine w_c ?_ | refine w_op ?_ | refine w_chain ?_ | refine w_nil ?_ | refine w_cons ?_ | refine w_tup ?_ | refine w_lst ?_
  | (apply w_len; (· wtm_at "nn")) | refine w_call ?_ | refine w_cb ?_ | refine w_isN ?_ | refine w_notN ?_ | refine w_fz ?_
  | refine w_add ?_ | refine w_sub ?_ | refine w_lt ?_ | refine w_le ?_ | refine w_gt ?_ | refine w_ge ?_ | (apply w_mod; (· wtm_at "nn")) | (apply w_div; (· wtm_at "nn"); (· wtm_at "nn"))
  | (apply w_eq; (· with_unfolding_all rfl)) | (apply w_ne; (· with_unfolding_all rfl))
  | (apply w_ixT; (· with_unfolding_all rfl)) | (apply w_ixL; (· wtm_at "gl"); (· with_unfolding_all rfl))
  | refine w_lenT ?_ | (apply w_lenL; (· wtm_at "gl")) | refine w_min2 ?_ | refine w_max2 ?_ | refine w_intB ?_ | (apply w_tupleL; (· wtm_at "gl"))
  | refine w_bm ?_ | refine w_bm0 ?_ | (apply w_ty; (· wtm_at "gl"))
  | (apply w_setL; (· wtm_at "lk"); (· with_unfolding_all rfl)) | (apply w_append; (· wtm_at "lk"); (· wtm_at "nn")) | (apply w_extend; (· wtm_at "lk"); (· wtm_at "gl"); (· wtm_at "nn"))
  | refine w_hcons ?_ | refine w_hnil ?_ | refine w_hname ?_ | (apply w_htup; (· with_unfolding_all rfl)) | (apply w_exT; (· with_unfolding_all rfl))
  | refine w_lcR1 ?_ | refine w_lcL ?_ | refine w_lcT ?_ | refine w_forR1 ?_ | refine w_forR2 ?_ | refine w_forL ?_ | refine w_forT ?_ | refine w_yes ?_ | refine w_cnm ?_ | (apply w_ctp; (· with_unfolding_all rfl))
  | (apply w_exL; (· wtm_at "gl")) | refine w_exTu ?_ | (apply w_exI; (· wtm_at "nn")) | (apply w_exI2; (· wtm_at "nn")) | refine w_exII ?_
  | refine w_lcK ?_ | refine w_fld ?_ | refine w_fldS ?_ | refine w_meth ?_ | refine w_make ?_ | (apply w_fldE; (· wtm_at "lk"); (· with_unfolding_all rfl)) | (apply w_fldSE; (· wtm_at "lk"); (· first | exact insF_lt | (with_unfolding_all exact Nat.le_of_ble_eq_true rfl) | wtm_at "nn")) | (apply w_lenD; (· wtm_at "lk"))
  | refine w_disp ?_ | refine w_pnil ?_ | refine w_pcons ?_ | (apply w_dispE; (· wtm_at "lk"); (· with_unfolding_all rfl); (· wtm_at "nn"))
  | refine w_dget ?_ | refine w_din ?_ | refine w_dget1 ?_ | refine w_dput ?_ | refine w_dpop1 ?_ | refine w_lenSet ?_ | refine w_listRng ?_ | refine w_notInRng ?_
  | (apply w_inK; (· wtm_at "dk"); (· with_unfolding_all rfl)) | (apply w_inT; (· wtm_at "dk"); (· with_unfolding_all exact keyT_lit))
  | (apply w_lkK; (· wtm_at "dk"); (· with_unfolding_all rfl); (· first | exact lv_web | exact lv_age | exact lv_room | exact lv_spots | exact lv_known | exact lv_time)) | (apply w_isK; (· wtm_at "dk")) | (apply w_isT; (· wtm_at "dk"))
  | (apply w_putK; (· wtm_at "lk"); (· with_unfolding_all rfl); (· wtm_at "nn")) | (apply w_putT; (· wtm_at "lk"); (· with_unfolding_all exact keyT_lit); (· wtm_at "nn")))
local macro_rules | `(tactic| wtm_at "bb") => `(tactic| (simp only [isN, Bool.not_true, Bool.not_false, Bool.or_true, Bool.true_or, Bool.or_false, Bool.false_or, Bool.xor_true, Bool.xor_false]; done))
local macro_rules | `(tactic| wtm_at "kt") => `(tactic| with_reducible first | exact kb_tu_tu | exact kb_tu_li | exact kb_tu_bo | exact kb_tu_st | exact kb_tu_in | exact kb_li_tu | exact kb_li_li | exact kb_li_bo | exact kb_li_st | exact kb_li_in | exact kb_No_tu | exact kb_No_li | exact kb_No_bo | exact kb_No_st | exact kb_No_in | exact kb_bo_tu | exact kb_bo_li | exact kb_bo_bo | exact kb_bo_st | exact kb_bo_in | exact kb_in_tu | exact kb_in_li | exact kb_in_bo | exact kb_in_st | exact kb_in_in | exact kb_st_tu | exact kb_st_li | exact kb_st_bo | exact kb_st_st | exact kb_st_in)
local macro_rules | `(tactic| wtm_at "ty") => `(tactic| first | assumption | exact ty_ref (by wtm_at "lk") | (with_unfolding_all exact rfl))
local macro_rules | `(tactic| wtm_at "x") => `(tactic| with_reducible first
  | (apply w_taken; (· wtm_at "lk"); (· wtm_at "nn"); (· wtm_at "nn")) | (apply w_eqD; (· wtm_at "vl"); (· wtm_at "vl"); (· wtm_at "pl"); (· wtm_at "pl")) | (apply w_neD; (· wtm_at "vl"); (· wtm_at "vl"); (· wtm_at "pl"); (· wtm_at "pl"))
  | (apply vR_row; (· assumption)) | (refine vR_frz (by assumption) ?_) | refine frz_let ?_ | refine w_isi ?_ | refine w_isi2 ?_ | (apply w_isiE; (· wtm_at "ty"); (· wtm_at "kt")) | (apply w_isiE2; (· wtm_at "ty"); (· wtm_at "kt"); (· wtm_at "kt"))
  | refine w_iteT rfl ?_ | refine w_iteF rfl ?_ | (apply w_iteT; (· wtm_at "bb")) | (apply w_iteF; (· wtm_at "bb")))
local macro_rules | `(tactic| wtm_at "w") => `(tactic| repeat (first | wtm_at "1" | wtm_at "x"))
def afterF (st : Mg.NS) : Deed → Mg.NS
  | .send t h to => (Mg.sendF st t h to).st
  | .move t h p => Mg.moveF st t h p
theorem after_ok {st : Mg.NS} (hok : NOk st) {dd : Deed} (hd : DeedOk st dd) : NOk (afterF st dd) := by
  cases dd with
  | send t h to => exact (send_ok hok hd).1.ok
  | move t h p => exact move_ok hok hd.1 hd.2.1 hd.2.2.2.2
theorem after_same {st : Mg.NS} (hok : NOk st) {dd : Deed} (hd : DeedOk st dd) : (afterF st dd).n = st.n ∧ (afterF st dd).ls = st.ls ∧ (afterF st dd).age = st.age ∧ (afterF st dd).room = st.room ∧ (afterF st dd).spots.length = st.spots.length := by
  cases dd with
  | send t h to =>
    have := (send_ok hok hd).1
    exact ⟨this.n, this.ls, this.age, this.room, by show (Mg.sendF st t h to).st.spots.length = _; rw [this.spots]⟩
  | move t h p => exact ⟨rfl, rfl, rfl, rfl, List.length_set ..⟩
def Deed.t : Deed → Int
  | .send t _ _ => t
  | .move t _ _ => t
theorem after_now {st : Mg.NS} (hok : NOk st) {dd : Deed} (hd : DeedOk st dd) : (afterF st dd).now = dd.t := by
  cases dd with
  | send t h to => exact (send_ok hok hd).1.now
  | move t h p => rfl
theorem deed_t {st : Mg.NS} {dd : Deed} (hd : DeedOk st dd) : st.now ≤ dd.t ∧ dd.t ≤ 1000 := by
  cases dd with
  | send t h to => exact ⟨hd.1, hd.2.1⟩
  | move t h p => exact ⟨hd.1, hd.2.1⟩
/-- the net's deed -/
theorem w_does {K : PySem.W.Frag} {a : Addr} {st : Mg.NS} {dd : Deed} {g : Gp} {Q : DK} (hga : g a = some (gNet K st)) (hok : NOk st) (hd : DeedOk st dd)
    (q : ∀ g' d, g' a = some (gNet K (afterF st dd)) → (∀ b, b ≠ a → ∀ x, g b = some x → g' b = some x) → Q d g') : sp_L_does K [.ref a, deedD dd] g Q := by
  cases dd with
  | send t h to =>
    refine w_L_doesS hga hok hd fun pf hpf => ?_
    have hfa : a ≠ pf := fun z => by rw [← z, hga] at hpf; cases hpf
    refine q _ _ ((ud_ne hfa).trans ud_same) fun b hba x hx => ?_
    rw [ud_ne (fun z => by rw [z, hpf] at hx; cases hx), ud_ne hba]
    exact hx
  | move t h p =>
    refine w_L_doesM hga hok hd (q _ _ ud_same fun b hba x hx => ?_)
    rw [ud_ne hba]
    exact hx
theorem LawO.sub {G G' : Gp} {l : La} {st : Mg.NS} (h : LawO G l st) (k : ∀ b x, G b = some x → G' b = some x) : LawO G' l st := h.agree ((k _ _ h.ga).trans h.ga.symm) ((k _ _ h.gs).trans h.gs.symm) ((k _ _ h.gk).trans h.gk.symm)
theorem LawO.subN {G G' : Gp} {l : La} {st : Mg.NS} {a : Addr} (h : LawO G l st) (hla : l.no a) (k : ∀ b, b ≠ a → ∀ x, G b = some x → G' b = some x) : LawO G' l st := h.agree ((k _ (Ne.symm hla.1) _ h.ga).trans h.ga.symm) ((k _ (Ne.symm hla.2.1) _ h.gs).trans h.gs.symm) ((k _ (Ne.symm hla.2.2) _ h.gk).trans h.gk.symm)
theorem no_of {l : La} {G : Gp} {r : Addr} {x : GO} (h : G r = some x) (ha : G l.a = none) (hs : G l.s = none) (hk : G l.k = none) : l.no r := ⟨fun z => (by rw [← z, h] at ha; cases ha), fun z => (by rw [← z, h] at hs; cases hs), fun z => (by rw [← z, h] at hk; cases hk)⟩
theorem ne_none {G : Gp} {r p : Addr} {x : GO} (h : G r = some x) (hp : G p = none) : r ≠ p := fun z => by rw [z, hp] at h; cases h
end Dg
namespace Dg
open Mg (Lk Kn NS Ltr C2 En EnOk Acy Reg Rc Rt AdjL AdjE Br Stp kidsO bfsS QI OutOk ThOk J1 LdT Bad Got)
section
variable {n : Int} {ls : List Lk}
theorem forest_br' (hw : WebOk n ls) (h : Forest ls) : Br ls := Mg.forest_br h fun l hl => (hw.ok l hl).ne
end
end Dg
namespace Dg
open Mg (Lk Kn NS Ltr C2 En EnOk Acy Reg Rc Rt AdjL AdjE Br Stp kidsO bfsS QI OutOk ThOk J1 LdT Bad Got)
theorem map_inj_of_nodup {α β : Type} {f : α → β} : ∀ {xs : List α}, (xs.map f).Nodup → ∀ {a b : α}, a ∈ xs → b ∈ xs → f a = f b → a = b
  | [], _, a, b, ha, _, _ => by cases ha
  | x :: xs, nd, a, b, ha, hb, e => by
    rw [List.map_cons, List.nodup_cons] at nd
    rcases List.mem_cons.mp ha with ha1 | ha1
    · rcases List.mem_cons.mp hb with hb1 | hb1
      · rw [ha1, hb1]
      · refine absurd (List.mem_map_of_mem (f := f) hb1) ?_
        rw [← e, ha1]
        exact nd.1
    · rcases List.mem_cons.mp hb with hb1 | hb1
      · refine absurd (List.mem_map_of_mem (f := f) ha1) ?_
        rw [e, hb1]
        exact nd.1
      · exact map_inj_of_nodup nd.2 ha1 hb1 e
section
variable {st : NS} {t h : Int} {to : Option Int}
theorem same_box (hok : NOk st) (hl : LtOk st t h to) (br : Br st.ls) {c d : C2} (hc : c ∈ comesF st t h to) (hd : d ∈ comesF st t h to) (e : c.1 = d.1) : c = d := map_inj_of_nodup (comes_all hok hl br).1.nd hc hd e
theorem there_all {c : C2} : thereS st t h none c = none := rfl
theorem all_boxes (hok : NOk st) (hl : LtOk st t h none) (br : Br st.ls) {v : Int} (j : Rc (Mg.eGet st.ls) none (Mg.spotF st h).1 v) : ∃ c ∈ comesF st t h none, c.1 = v := by
  have sp := spot_ok hok hl.2.2.1 hl.2.2.2.1
  have := Mg.all_come (enOk hok.web) (comes_all hok hl br).1 sp.free (fun c hc o k e ho => by
    have := (eGet_rg hok.web e).1.2.2
    exact (thS_ok hok.web (t := t) (h := h) (to := none)).non c there_all o this.1 this.2 ho) j
  obtain ⟨c, hc, e⟩ := List.mem_map.mp this
  exact ⟨c, hc, e⟩
theorem learnK_get {room : Int} {kn : Kn} {h d t g : Int} {v : Int × Int} (hg : g ≠ h) (e : Mg.kGet (Mg.learnK room kn h d t) g = some v) : Mg.kGet kn g = some v := by
  unfold Mg.learnK at e
  split at e
  · rw [Mg.kGet_put, if_neg hg, Mg.kGet_drop] at e
    split at e
    · cases e
    · exact e
  · rw [Mg.kGet_put, if_neg hg] at e
    exact e
end
end Dg
namespace Dg
open PySem PySem.Spec L2
local macro_rules | `(tactic| wtm_at "ne") => `(tactic| first | assumption | (apply Ne.symm; assumption) | (grind [ud, er]))
local macro_rules | `(tactic| wtm_at "lk") => `(tactic| first | (with_reducible assumption) | (with_reducible exact ud_same) | ((with_reducible refine (ud_ne (by wtm_at "ne")).trans ?_); wtm_at "lk"))
local macro_rules | `(tactic| wtm_at "gl") => `(tactic| first | (with_reducible assumption) | (with_reducible exact lst_ref (by wtm_at "lk")) | (with_reducible exact lstOf_new (by assumption) (by assumption)) | (with_unfolding_all exact rfl))
local macro_rules | `(tactic| wtm_at "vl") => `(tactic| first | (with_reducible exact val_ref (by wtm_at "lk")) | (with_unfolding_all exact rfl))
local macro_rules | `(tactic| wtm_at "dk") => `(tactic| with_reducible first | exact dK_own (by wtm_at "lk") | exact dK_lk (by wtm_at "lk") | exact dT_own (by wtm_at "lk"))
local macro_rules | `(tactic| wtm_at "pl") => `(tactic| with_unfolding_all first | exact rfl | exact all_int _ | exact all_P2 _ | assumption)
local macro_rules | `(tactic| wtm_at "nn") => `(tactic| first | omega | decide | (simp only [List.length_cons, List.length_nil, List.length_map, List.length_append]; omega) | grind)
local macro_rules | `(tactic| wtm_at "st") => `(tactic| (simp only [stD, List.map_cons, List.map_nil, List.length_cons, List.length_nil, List.replicate, Nat.reduceAdd, Nat.reduceSub, List.cons_append, List.nil_append]))
local macro_rules | `(tactic| wtm_at "1") => `(tactic| with_reducible first
  | refine w_seq ?_ | refine w_asgN ?_ | refine w_asgS ?_ | refine w_asgT ?_ | refine w_ret ?_ | refine w_drop ?_ | refine w_ifS ?_ | refine w_test ?_ | refine w_next ?_
  | refine w_nx ?_ | refine w_nx0 ?_ | refine w_rt ?_ | refine w_bk ?_ | refine w_ct ?_
  | refine w_bl2 ?_ | refine w_and ?_ | refine w_or ?_ | refine w_not ?_ | refine w_andV ?_ | refine w_orV ?_ | refine w_notV ?_ | refine w_if ?_
  | (apply w_var; (· with_unfolding_all rfl)) | refine w_c ?_ | refine w_op ?_ | refine w_chain ?_ | refine w_nil ?_ | refine w_cons ?_ | refine w_tup ?_ | refine w_lst ?_
  | (apply w_len; (· wtm_at "nn")) | refine w_call ?_ | refine w_cb ?_ | refine w_isN ?_ | refine w_notN ?_ | refine w_fz ?_
  | refine w_add ?_ | refine w_sub ?_ | refine w_lt ?_ | refine w_le ?_ | refine w_gt ?_ | refine w_ge ?_ | (apply w_mod; (· wtm_at "nn")) | (apply w_div; (· wtm_at "nn"); (· wtm_at "nn"))
  | (apply w_eq; (· with_unfolding_all rfl)) | (apply w_ne; (· with_unfolding_all rfl))
  | (apply w_ixT; (· with_unfolding_all rfl)) | (apply w_ixL; (· wtm_at "gl"); (· with_unfolding_all rfl))
  | refine w_lenT ?_ | (apply w_lenL; (· wtm_at "gl")) | refine w_min2 ?_ | refine w_max2 ?_ | refine w_intB ?_ | (apply w_tupleL; (· wtm_at "gl"))
  | refine w_bm ?_ | refine w_bm0 ?_ | (apply w_ty; (· wtm_at "gl"))
  | (apply w_setL; (· wtm_at "lk"); (· with_unfolding_all rfl)) | (apply w_append; (· wtm_at "lk"); (· wtm_at "nn")) | (apply w_extend; (· wtm_at "lk"); (· wtm_at "gl"); (· wtm_at "nn"))
  | refine w_hcons ?_ | refine w_hnil ?_ | refine w_hname ?_ | (apply w_htup; (· with_unfolding_all rfl)) | (apply w_exT; (· with_unfolding_all rfl))
  | refine w_lcR1 ?_ | refine w_lcL ?_ | refine w_lcT ?_ | refine w_forR1 ?_ | refine w_forR2 ?_ | refine w_forL ?_ | refine w_forT ?_ | refine w_yes ?_ | refine w_cnm ?_ | (apply w_ctp; (· with_unfolding_all rfl))
  | (apply w_exL; (· wtm_at "gl")) | refine w_exTu ?_ | (apply w_exI; (· wtm_at "nn")) | (apply w_exI2; (· wtm_at "nn")) | refine w_exII ?_
  | refine w_lcK ?_ | refine w_fld ?_ | refine w_fldS ?_ | refine w_meth ?_ | refine w_make ?_ | (apply w_fldE; (· wtm_at "lk"); (· with_unfolding_all rfl)) | (apply w_fldSE; (· wtm_at "lk"); (· first | exact insF_lt | (with_unfolding_all exact Nat.le_of_ble_eq_true rfl) | wtm_at "nn")) | (apply w_lenD; (· wtm_at "lk"))
  | refine w_disp ?_ | refine w_pnil ?_ | refine w_pcons ?_ | (apply w_dispE; (· wtm_at "lk"); (· with_unfolding_all rfl); (· wtm_at "nn"))
  | refine w_dget ?_ | refine w_din ?_ | refine w_dget1 ?_ | refine w_dput ?_ | refine w_dpop1 ?_ | refine w_lenSet ?_ | refine w_listRng ?_ | refine w_notInRng ?_
  | (apply w_inK; (· wtm_at "dk"); (· with_unfolding_all rfl)) | (apply w_inT; (· wtm_at "dk"); (· with_unfolding_all exact keyT_lit))
  | (apply w_lkK; (· wtm_at "dk"); (· with_unfolding_all rfl); (· first | exact lv_web | exact lv_age | exact lv_room | exact lv_spots | exact lv_known | exact lv_time)) | (apply w_isK; (· wtm_at "dk")) | (apply w_isT; (· wtm_at "dk"))
  | (apply w_putK; (· wtm_at "lk"); (· with_unfolding_all rfl); (· wtm_at "nn")) | (apply w_putT; (· wtm_at "lk"); (· with_unfolding_all exact keyT_lit); (· wtm_at "nn")))
local macro_rules | `(tactic| wtm_at "bb") => `(tactic| (simp only [isN, Bool.not_true, Bool.not_false, Bool.or_true, Bool.true_or, Bool.or_false, Bool.false_or, Bool.xor_true, Bool.xor_false]; done))
local macro_rules | `(tactic| wtm_at "kt") => `(tactic| with_reducible first | exact kb_tu_tu | exact kb_tu_li | exact kb_tu_bo | exact kb_tu_st | exact kb_tu_in | exact kb_li_tu | exact kb_li_li | exact kb_li_bo | exact kb_li_st | exact kb_li_in | exact kb_No_tu | exact kb_No_li | exact kb_No_bo | exact kb_No_st | exact kb_No_in | exact kb_bo_tu | exact kb_bo_li | exact kb_bo_bo | exact kb_bo_st | exact kb_bo_in | exact kb_in_tu | exact kb_in_li | exact kb_in_bo | exact kb_in_st | exact kb_in_in | exact kb_st_tu | exact kb_st_li | exact kb_st_bo | exact kb_st_st | exact kb_st_in)
local macro_rules | `(tactic| wtm_at "ty") => `(tactic| first | assumption | exact ty_ref (by wtm_at "lk") | (with_unfolding_all exact rfl))
local macro_rules | `(tactic| wtm_at "x") => `(tactic| with_reducible first
  | (apply w_taken; (· wtm_at "lk"); (· wtm_at "nn"); (· wtm_at "nn")) | (apply w_eqD; (· wtm_at "vl"); (· wtm_at "vl"); (· wtm_at "pl"); (· wtm_at "pl")) | (apply w_neD; (· wtm_at "vl"); (· wtm_at "vl"); (· wtm_at "pl"); (· wtm_at "pl"))
  | (apply vR_row; (· assumption)) | (refine vR_frz (by assumption) ?_) | refine frz_let ?_ | refine w_isi ?_ | refine w_isi2 ?_ | (apply w_isiE; (· wtm_at "ty"); (· wtm_at "kt")) | (apply w_isiE2; (· wtm_at "ty"); (· wtm_at "kt"); (· wtm_at "kt"))
  | refine w_iteT rfl ?_ | refine w_iteF rfl ?_ | (apply w_iteT; (· wtm_at "bb")) | (apply w_iteF; (· wtm_at "bb")))
local macro_rules | `(tactic| wtm_at "w") => `(tactic| repeat (first | wtm_at "1" | wtm_at "x"))
/-- what the law keeps of a net, for drawing deeds -/
structure Tw (sl st : Mg.NS) : Prop where
  ok : NOk sl
  n : sl.n = st.n
  ls : sl.ls = st.ls
  len : sl.spots.length = st.spots.length
  now : sl.now = st.now
  age : sl.age = st.age
theorem Tw.deed {sl st : Mg.NS} (h : Tw sl st) {dd : Deed} (hd : DeedOk sl dd) : DeedOk st dd := by
  cases dd with
  | send t a to =>
    obtain ⟨h1, h2, h3, h4, h5⟩ := hd
    exact ⟨by rw [← h.now]; exact h1, h2, h3, by rw [← h.len]; exact h4, fun z hz => by rw [← h.len]; exact h5 z hz⟩
  | move t a p =>
    obtain ⟨h1, h2, h3, h4, h5⟩ := hd
    exact ⟨by rw [← h.now]; exact h1, h2, h3, by rw [← h.len]; exact h4, by rw [← h.n, ← h.ls]; exact h5⟩
theorem Tw.refl {st : Mg.NS} (h : NOk st) : Tw st st := ⟨h, rfl, rfl, rfl, rfl, rfl⟩
theorem Tw.time {sl st : Mg.NS} (h : Tw sl st) (hok : NOk st) {dd : Deed} (hd : DeedOk st dd) : Tw { sl with now := dd.t } (afterF st dd) := by
  have ht := deed_t hd
  obtain ⟨s1, s2, s3, s4, s5⟩ := after_same hok hd
  have := h.now
  exact ⟨now_ok h.ok (by omega) ht.2, h.n.trans s1.symm, h.ls.trans s2.symm, h.len.trans s5.symm, (after_now hok hd).symm, h.age.trans s3.symm⟩
theorem Tw.both {sl st : Mg.NS} (h : Tw sl st) (hok : NOk st) {dd : Deed} (hd : DeedOk st dd) : Tw { sl with now := dd.t, spots := (afterF st dd).spots } (afterF st dd) := by
  obtain ⟨⟨a1, a2, a3, a4, a5, a6, a7, a8, a9, a10, a11, a12⟩, b1, b2, b3, b4, b5⟩ := h.time hok hd
  have ok2 := after_ok hok hd
  have b1 : sl.n = (afterF st dd).n := b1
  have b2 : sl.ls = (afterF st dd).ls := b2
  have b3 : sl.spots.length = (afterF st dd).spots.length := b3
  refine ⟨⟨a1, a2, a3, a4, a5, ok2.h1, ok2.h8, fun p hp => ?_, a9, fun kn hk => ?_, a11, a12⟩, b1, b2, rfl, b4, b5⟩
  · show PlOk sl.n sl.ls p
    rw [b1, b2]
    exact ok2.pl p hp
  · have := a10 kn hk
    show KnOk ((afterF st dd).spots.length : Int) sl.room dd.t kn
    rw [← b3]
    exact this
theorem lv_putS {l : La} {st : Mg.NS} {p : Addr} {sp : List (Int × Int)} : putD (lawKv l st) (.inr "spots") (.ref p) = lawKv { l with s := p } { st with spots := sp } := rfl
theorem deed1 {dd : Deed} : ∃ ds, deedD dd = .tup ds ∧ atI ds 1 = some (.int dd.t) := by
  cases dd with
  | send t h to => exact ⟨_, rfl, rfl⟩
  | move t h p => exact ⟨_, rfl, rfl⟩
theorem w_deed1 {dd : Deed} {G : Gp} {Q : DK} (q : Q (.int dd.t) G) : eIxT (deedD dd) (.int 1) G Q := by
  obtain ⟨ds, e1, e2⟩ := deed1 (dd := dd)
  exact ⟨ds, 1, .int dd.t, e1, rfl, e2, q⟩
theorem w_L_joinedN {K : PySem.W.Frag} {n : Int} {ls : List Mg.Lk} {G : Gp} {Q : DK} (hw : WebOk n ls) (q : Q (.lst ((Mg.rangeI n.toNat).map fun u => nearD (nearF n ls none u))) G) : sp_L_joined K [webD n ls, .non] G Q := ⟨n, ls, none, rfl, hw, q⟩
end Dg
namespace Dg
open Mg (Lk Kn NS Ltr C2 En EnOk Acy Reg Rc Rt AdjL AdjE Br Stp kidsO bfsS QI OutOk ThOk J1 LdT Bad Got)
def iAt (xs : List Int) (h : Int) : Int := xs.getD h.toNat 0
def bAt (xs : List Bool) (h : Int) : Bool := xs.getD h.toNat false
theorem iAt_set {xs : List Int} {h v : Int} (h0 : 0 ≤ h) (h1 : h < xs.length) (g : Int) (g0 : 0 ≤ g) : iAt (xs.set h.toNat v) g = if g = h then v else iAt xs g := by
  unfold iAt
  rw [List.getD_eq_getElem?_getD, List.getD_eq_getElem?_getD]
  by_cases e : g = h
  · rw [if_pos e, e, List.getElem?_set_self (by omega)]
    rfl
  · rw [if_neg e, List.getElem?_set_ne (by omega)]
theorem bAt_set {xs : List Bool} {h : Int} {v : Bool} (h0 : 0 ≤ h) (h1 : h < xs.length) (g : Int) (g0 : 0 ≤ g) : bAt (xs.set h.toNat v) g = if g = h then v else bAt xs g := by
  unfold bAt
  rw [List.getD_eq_getElem?_getD, List.getD_eq_getElem?_getD]
  by_cases e : g = h
  · rw [if_pos e, e, List.getElem?_set_self (by omega)]
    rfl
  · rw [if_neg e, List.getElem?_set_ne (by omega)]
/-- what is known of hosts that haven't moved since leads there -/
structure KI (st : NS) (mv : List Int) (cl : List Bool) : Prop where
  l1 : mv.length = st.spots.length
  l2 : cl.length = st.spots.length
  lo : ∀ x ∈ mv, -1 ≤ x ∧ x ≤ 1000
  i1 : ∀ b h d s : Int, 0 ≤ b → b < st.n → Mg.kGet (Mg.knAt st b) h = some (d, s) → iAt mv h < s → Leads st b d h
  i2 : ∀ b h d s : Int, 0 ≤ b → b < st.n → 0 ≤ h → h < st.spots.length → bAt cl h = true → Rc (Mg.eGet st.ls) none (Mg.spotF st h).1 b → Mg.kGet (Mg.knAt st b) h = some (d, s) → Leads st b d h
section
variable {st : NS}
theorem kn_in (hok : NOk st) {b h d s : Int} (b0 : 0 ≤ b) (b1 : b < st.n) (e : Mg.kGet (Mg.knAt st b) h = some (d, s)) : (0 ≤ h ∧ h < st.spots.length) ∧ s ≤ st.now := by
  have hkl := hok.kl
  have := (hok.kn _ (List.mem_of_getElem? (kn_at (st := st) b0 (by omega)))).ok _ (mem_of_kGet e)
  exact ⟨⟨this.1, this.2.1⟩, this.2.2.2.2.2⟩
/-- a coming's door leads back to the sender -/
theorem come_leads (hok : NOk st) {t h : Int} {to : Option Int} (hl : LtOk st t h to) (br : Br st.ls) {c : C2} (hc : c ∈ comesF st t h to) : Leads st c.1 c.2 h := by
  have ac := acy_of hok.web br
  have sp := spot_ok hok hl.2.2.1 hl.2.2.2.1
  rw [leads_ld hok.web ac]
  rcases ((comes_all hok hl br).2.2 c hc).2 with z | ⟨e, z, r⟩
  · rw [show (c.1, c.2) = Mg.spotF st h from z, Mg.ldt_none sp.free]
  · exact (Mg.ldt_some z).mpr r
theorem learnK_self {room : Int} {kn : Kn} {h d t : Int} : Mg.kGet (Mg.learnK room kn h d t) h = some (d, t) := by
  unfold Mg.learnK
  split
  · rw [Mg.kGet_put, if_pos rfl]
  · rw [Mg.kGet_put, if_pos rfl]
/-- what boxes know behind a letter -/
theorem known_send (hok : NOk st) {t h : Int} {to : Option Int} (hl : LtOk st t h to) (br : Br st.ls) {b g d s : Int} (b0 : 0 ≤ b) (b1 : b < st.n) (e : Mg.kGet (Mg.knAt (Mg.sendF st t h to).st b) g = some (d, s)) :
    (g = h ∧ ∃ c ∈ comesF st t h to, c.1 = b ∧ d = c.2 ∧ s = t) ∨ Mg.kGet (Mg.knAt st b) g = some (d, s) := by
  rw [(send_run hok hl br).kn b b0 b1] at e
  unfold knS at e
  cases e1 : (comesF st t h to).find? (fun c => decide (c.1 = b)) with
  | none => rw [e1] at e; exact .inr e
  | some c =>
    rw [e1] at e
    dsimp only at e
    have hc := List.mem_of_find?_eq_some e1
    have hb : c.1 = b := by simpa using List.find?_some e1
    by_cases hg : g = h
    · subst hg
      rw [learnK_self] at e
      cases e
      exact .inl ⟨rfl, c, hc, hb, rfl, rfl⟩
    · exact .inr (learnK_get hg e)
theorem known_come (hok : NOk st) {t h : Int} {to : Option Int} (hl : LtOk st t h to) (br : Br st.ls) {c : C2} (hc : c ∈ comesF st t h to) : Mg.kGet (Mg.knAt (Mg.sendF st t h to).st c.1) h = some (c.2, t) := by
  have r := (comes_all hok hl br).2.1 c hc
  have n1 := hok.web.n1
  rw [(send_run hok hl br).kn c.1 r.1 (by omega)]
  unfold knS
  cases e1 : (comesF st t h to).find? (fun x => decide (x.1 = c.1)) with
  | none => exact absurd (List.find?_eq_none.mp e1 c hc) (by simp)
  | some x =>
    dsimp only
    have hx := List.mem_of_find?_eq_some e1
    have hb : x.1 = c.1 := by simpa using List.find?_some e1
    rw [same_box hok hl br hx hc hb]
    exact learnK_self
theorem leads_send (hok : NOk st) {t h : Int} {to : Option Int} (hl : LtOk st t h to) {b d g : Int} : Leads (Mg.sendF st t h to).st b d g ↔ Leads st b d g := leads_same (send_ok hok hl).1.ls (send_ok hok hl).1.spots
theorem spot_send (hok : NOk st) {t h : Int} {to : Option Int} (hl : LtOk st t h to) {g : Int} : Mg.spotF (Mg.sendF st t h to).st g = Mg.spotF st g := by
  unfold Mg.spotF
  rw [(send_ok hok hl).1.spots]
theorem KI.send {mv : List Int} {cl : List Bool} (k : KI st mv cl) (hok : NOk st) {t h : Int} {to : Option Int} (hl : LtOk st t h to) (br : Br st.ls) : KI (Mg.sendF st t h to).st mv cl ∧ (to = none → KI (Mg.sendF st t h to).st mv (cl.set h.toNat true)) := by
  have so := (send_ok hok hl).1
  obtain ⟨k1, k2, k3, k4, k5⟩ := k
  have j1 : ∀ b g d s : Int, 0 ≤ b → b < (Mg.sendF st t h to).st.n → Mg.kGet (Mg.knAt (Mg.sendF st t h to).st b) g = some (d, s) → iAt mv g < s → Leads (Mg.sendF st t h to).st b d g := fun b g d s b0 b1 e hm => by
    rw [so.n] at b1
    rw [leads_send hok hl]
    rcases known_send hok hl br b0 b1 e with ⟨rfl, c, hc, rfl, rfl, rfl⟩ | e2
    · exact come_leads hok hl br hc
    · exact k4 b g d s b0 b1 e2 hm
  have j2 : ∀ cl', (∀ g, 0 ≤ g → bAt cl' g = true → bAt cl g = true ∨ (g = h ∧ to = none)) → ∀ b g d s : Int, 0 ≤ b → b < (Mg.sendF st t h to).st.n → 0 ≤ g → g < (Mg.sendF st t h to).st.spots.length → bAt cl' g = true → Rc (Mg.eGet (Mg.sendF st t h to).st.ls) none (Mg.spotF (Mg.sendF st t h to).st g).1 b → Mg.kGet (Mg.knAt (Mg.sendF st t h to).st b) g = some (d, s) → Leads (Mg.sendF st t h to).st b d g := fun cl' hcl b g d s b0 b1 g0 g1 hc r e => by
    rw [so.n] at b1
    rw [so.spots] at g1
    rw [so.ls, spot_send hok hl] at r
    rw [leads_send hok hl]
    rcases known_send hok hl br b0 b1 e with ⟨rfl, c, hc, rfl, rfl, rfl⟩ | e2
    · exact come_leads hok hl br hc
    · rcases hcl g g0 hc with z | ⟨rfl, rfl⟩
      · exact k5 b g d s b0 b1 g0 g1 z r e2
      · obtain ⟨c, hcc, rfl⟩ := all_boxes hok hl br r
        have := known_come hok hl br hcc
        rw [this] at e
        cases e
        exact come_leads hok hl br hcc
  refine ⟨⟨by rw [so.spots]; exact k1, by rw [so.spots]; exact k2, k3, j1, j2 cl fun g _ z => .inl z⟩, fun hn => ⟨by rw [so.spots]; exact k1, by rw [so.spots, List.length_set]; exact k2, k3, j1, j2 _ fun g g0 z => ?_⟩⟩
  rw [bAt_set hl.2.2.1 (by rw [k2]; exact hl.2.2.2.1) g g0] at z
  split at z
  · rename_i e
    exact .inr ⟨e, hn⟩
  · exact .inl z
theorem spot_move {t h : Int} {p : C2} (h0 : 0 ≤ h) (h1 : h < st.spots.length) {g : Int} (g0 : 0 ≤ g) (hg : g ≠ h) : Mg.spotF (Mg.moveF st t h p) g = Mg.spotF st g := by
  unfold Mg.spotF Mg.moveF
  dsimp only
  rw [List.getD_eq_getElem?_getD, List.getD_eq_getElem?_getD, List.getElem?_set_ne (by omega)]
theorem leads_move {t h : Int} {p : C2} (h0 : 0 ≤ h) (h1 : h < st.spots.length) {b d g : Int} (g0 : 0 ≤ g) (hg : g ≠ h) : Leads (Mg.moveF st t h p) b d g ↔ Leads st b d g := by
  unfold Leads
  rw [spot_move h0 h1 g0 hg]
  exact Iff.rfl
theorem KI.move {mv : List Int} {cl : List Bool} (k : KI st mv cl) (hok : NOk st) {t h : Int} {p : C2} (hd : DeedOk st (.move t h p)) : KI (Mg.moveF st t h p) (mv.set h.toNat t) (cl.set h.toNat false) := by
  obtain ⟨k1, k2, k3, k4, k5⟩ := k
  obtain ⟨d1, d2, d3, d4, d5⟩ := hd
  have sl : (Mg.moveF st t h p).spots.length = st.spots.length := List.length_set ..
  have t0 := hok.t0
  refine ⟨by rw [List.length_set, sl]; exact k1, by rw [List.length_set, sl]; exact k2, fun x hx => ?_, fun b g d s b0 b1 e hm => ?_, fun b g d s b0 b1 g0 g1 hc r e => ?_⟩
  · rcases List.mem_or_eq_of_mem_set hx with z | z
    · exact k3 x z
    · rw [z]; omega
  · have e : Mg.kGet (Mg.knAt st b) g = some (d, s) := e
    have b1 : b < st.n := b1
    have gi := kn_in hok b0 b1 e
    rw [iAt_set d3 (by rw [k1]; exact d4) g gi.1.1] at hm
    by_cases eg : g = h
    · rw [if_pos eg] at hm
      omega
    · rw [if_neg eg] at hm
      rw [leads_move d3 d4 gi.1.1 eg]
      exact k4 b g d s b0 b1 e hm
  · have e : Mg.kGet (Mg.knAt st b) g = some (d, s) := e
    have b1 : b < st.n := b1
    rw [sl] at g1
    rw [bAt_set d3 (by rw [k2]; exact d4) g g0] at hc
    by_cases eg : g = h
    · rw [if_pos eg] at hc
      cases hc
    · rw [if_neg eg] at hc
      rw [leads_move d3 d4 g0 eg]
      rw [spot_move d3 d4 g0 eg] at r
      exact k5 b g d s b0 b1 g0 g1 hc r e
/-- those that are wrong -/
theorem KI.wrong {mv : List Int} {cl : List Bool} (k : KI st mv cl) (hok : NOk st) {t : Int} {q : Int × (Int × Int)} (hq : q ∈ wrongF st t) : ∃ seen, Mg.kGet (Mg.knAt st q.1) q.2.1 = some (q.2.2, seen) ∧ t ≤ seen + st.age ∧ seen ≤ iAt mv q.2.1 ∧ (0 ≤ q.1 ∧ q.1 < st.n) ∧ (0 ≤ q.2.1 ∧ q.2.1 < st.spots.length) ∧ (bAt cl q.2.1 = true → ¬ Rc (Mg.eGet st.ls) none (Mg.spotF st q.2.1).1 q.1) := by
  obtain ⟨q0, q1, seen, e, h1, h2⟩ := (mem_wrong hok).mp hq
  have gi := kn_in hok q0 q1 e
  refine ⟨seen, e, h1, ?_, ⟨q0, q1⟩, gi.1, fun hc r => h2 (k.i2 _ _ _ _ q0 q1 gi.1.1 gi.1.2 hc r e)⟩
  by_cases c : iAt mv q.2.1 < seen
  · exact absurd (k.i1 _ _ _ _ q0 q1 e c) h2
  · omega
theorem KI.until {mv : List Int} {cl : List Bool} (k : KI st mv cl) (hok : NOk st) {m x : Int} (hm : IsUntil st m) (hx : ∀ y ∈ mv, y ≤ x) (h : st.now < m) : m ≤ x + st.age + 1 := by
  have h1 := hm.1
  unfold untilL at h1
  rcases List.mem_append.mp h1 with z | z
  · obtain ⟨q, hq, e⟩ := List.mem_map.mp z
    obtain ⟨seen, e1, _, e2, _, e3, _⟩ := k.wrong hok hq
    rw [e1] at e
    have hl : q.2.1.toNat < mv.length := by rw [k.l1]; omega
    have : iAt mv q.2.1 ∈ mv := by
      unfold iAt
      rw [List.getD_eq_getElem?_getD, List.getElem?_eq_getElem hl]
      exact List.getElem_mem hl
    have := hx _ this
    have e : seen + st.age + 1 = m := e
    omega
  · simp only [List.mem_singleton] at z
    omega
theorem KI.fresh (hk : ∀ kn ∈ st.known, kn = []) (hok : NOk st) : KI st (List.replicate st.spots.length (-1)) (List.replicate st.spots.length false) := by
  have none : ∀ b g v, 0 ≤ b → b < st.n → Mg.kGet (Mg.knAt st b) g = some v → False := fun b g v b0 b1 e => by
    have hkl := hok.kl
    have := hk _ (List.mem_of_getElem? (kn_at (st := st) b0 (by omega)))
    rw [this] at e
    cases e
  refine ⟨List.length_replicate, List.length_replicate, fun x hx => by rw [List.eq_of_mem_replicate hx]; omega, fun b h d s b0 b1 e => (none b h _ b0 b1 e).elim, fun b h d s b0 b1 _ _ _ _ e => (none b h _ b0 b1 e).elim⟩
end
end Dg
namespace Dg
open PySem PySem.Spec L2
open Mg (Lk Kn NS C2 Rc)
def sp_L_moved_since (K : PySem.W.Frag) : DSp := fun ds G Q => ∃ (x : D) (mv : List Int) (a : Addr) (st : NS) (b h d s : Int), ds = [x, .ref a, .int b, .int h] ∧ lstOf G x = some (mv.map D.int) ∧ G a = some (gNet K st) ∧ NOk st ∧ (0 ≤ b ∧ b < st.n) ∧ (0 ≤ h ∧ h < mv.length) ∧ Mg.kGet (Mg.knAt st b) h = some (d, s) ∧ Q (.bl (decide (s ≤ iAt mv h))) G
def sp_L_all_know (K : PySem.W.Frag) : DSp := fun ds G Q => ∃ (a : Addr) (st : NS) (bs : List Int) (h : Int), ds = [.ref a, .lst (bs.map D.int), .int h] ∧ G a = some (gNet K st) ∧ NOk st ∧ (0 ≤ h ∧ h < st.spots.length) ∧ (∀ b ∈ bs, (0 ≤ b ∧ b < st.n) ∧ ∃ d s, Mg.kGet (Mg.knAt st b) h = some (d, s) ∧ Leads st b d h) ∧ Q (.bl true) G
theorem len_L_moved_since {K : PySem.W.Frag} : ∀ ds G Q, sp_L_moved_since K ds G Q → ds.length = 4 := by rintro _ _ _ ⟨_, _, _, _, _, _, _, _, rfl, _⟩; rfl
theorem len_L_all_know {K : PySem.W.Frag} : ∀ ds G Q, sp_L_all_know K ds G Q → ds.length = 3 := by rintro _ _ _ ⟨_, _, _, _, rfl, _⟩; rfl
end Dg
namespace Dg
open PySem PySem.Spec L2
/-- _law_moved_since: slots 0=moves 1=net_here 2=box 3=host 4=one -/
def b_L_moved_since (K : PySem.W.Frag) : DS :=
    (dRet (dOp eLe (dOp eIxL (dFz (dLcL (dMeth (cN K) "knows" (sp_N_knows K) (dVar 1) (dCons (dVar 2) dNil)) (.nm 4) (dTest (dOp eEq (dOp eIxT (dVar 4) (dC (.int 0))) (dVar 3))) (dOp eIxT (dVar 4) (dC (.int 2))) [4])) (dC (.int 0))) (dOp eIxL (dVar 0) (dVar 3))))
/-- _law_all_know: slots 0=net_here 1=near 2=host 3=box 4=doors 5=one -/
def b_L_all_know (K : PySem.W.Frag) : DS :=
    (dSeq (dForL (dVar 1) (hName 3) (dSeq (dAsg (dLcL (dMeth (cN K) "knows" (sp_N_knows K) (dVar 0) (dCons (dVar 3) dNil)) (.nm 5) (dTest (dOp eEq (dOp eIxT (dVar 5) (dC (.int 0))) (dVar 2))) (dOp eIxT (dVar 5) (dC (.int 1))) [5]) (hName 4))
    (dIfS (dOr (dTest (dOp eEqD (dVar 4) (dFz (dLst dNil)))) (dNot (dTest (dCall (sp_leads K) (dCons (dVar 0) (dCons (dVar 3) (dCons (dOp eIxL (dVar 4) (dC (.int 0))) (dCons (dVar 2) dNil)))))))) (dRet (dC (.bl false))) dNext)))
    (dRet (dC (.bl true))))
end Dg
namespace Dg
open PySem PySem.Spec L2
local macro_rules | `(tactic| wtm_at "ne") => `(tactic| first | assumption | (apply Ne.symm; assumption) | (grind [ud, er]))
local macro_rules | `(tactic| wtm_at "lk") => `(tactic| first | (with_reducible assumption) | (with_reducible exact ud_same) | ((with_reducible refine (ud_ne (by wtm_at "ne")).trans ?_); wtm_at "lk"))
local macro_rules | `(tactic| wtm_at "gl") => `(tactic| first | (with_reducible assumption) | (with_reducible exact lst_ref (by wtm_at "lk")) | (with_reducible exact lstOf_new (by assumption) (by assumption)) | (with_unfolding_all exact rfl))
local macro_rules | `(tactic| wtm_at "vl") => `(tactic| first | (with_reducible exact val_ref (by wtm_at "lk")) | (with_unfolding_all exact rfl))
local macro_rules | `(tactic| wtm_at "dk") => `(tactic| with_reducible first | exact dK_own (by wtm_at "lk") | exact dK_lk (by wtm_at "lk") | exact dT_own (by wtm_at "lk"))
local macro_rules | `(tactic| wtm_at "pl") => `(tactic| with_unfolding_all first | exact rfl | exact all_int _ | exact all_P2 _ | assumption)
local macro_rules | `(tactic| wtm_at "nn") => `(tactic| first | omega | decide | (simp only [List.length_cons, List.length_nil, List.length_map, List.length_append]; omega) | grind)
local macro_rules | `(tactic| wtm_at "st") => `(tactic| (simp only [stD, List.map_cons, List.map_nil, List.length_cons, List.length_nil, List.replicate, Nat.reduceAdd, Nat.reduceSub, List.cons_append, List.nil_append]))
local macro_rules | `(tactic| wtm_at "1") => `(tactic| with_reducible first
  | refine w_seq ?_ | refine w_asgN ?_ | refine w_asgS ?_ | refine w_asgT ?_ | refine w_ret ?_ | refine w_drop ?_ | refine w_ifS ?_ | refine w_test ?_ | refine w_next ?_
  | refine w_nx ?_ | refine w_nx0 ?_ | refine w_rt ?_ | refine w_bk ?_ | refine w_ct ?_
  | refine w_bl2 ?_ | refine w_and ?_ | refine w_or ?_ | refine w_not ?_ | refine w_andV ?_ | refine w_orV ?_ | refine w_notV ?_ | refine w_if ?_
  | (apply w_var; (· with_unfolding_all rfl)) | refine w_c ?_ | refine w_op ?_ | refine w_chain ?_ | refine w_nil ?_ | refine w_cons ?_ | refine w_tup ?_ | refine w_lst ?_
  | (apply w_len; (· wtm_at "nn")) | refine w_call ?_ | refine w_cb ?_ | refine w_isN ?_ | refine w_notN ?_ | refine w_fz ?_
  | refine w_add ?_ | refine w_sub ?_ | refine w_lt ?_ | refine w_le ?_ | refine w_gt ?_ | refine w_ge ?_ | (apply w_mod; (· wtm_at "nn")) | (apply w_div; (· wtm_at "nn"); (· wtm_at "nn"))
  | (apply w_eq; (· with_unfolding_all rfl)) | (apply w_ne; (· with_unfolding_all rfl))
  | (apply w_ixT; (· with_unfolding_all rfl)) | (apply w_ixL; (· wtm_at "gl"); (· with_unfolding_all rfl))
  | refine w_lenT ?_ | (apply w_lenL; (· wtm_at "gl")) | refine w_min2 ?_ | refine w_max2 ?_ | refine w_intB ?_ | (apply w_tupleL; (· wtm_at "gl"))
  | refine w_bm ?_ | refine w_bm0 ?_ | (apply w_ty; (· wtm_at "gl"))
  | (apply w_setL; (· wtm_at "lk"); (· with_unfolding_all rfl)) | (apply w_append; (· wtm_at "lk"); (· wtm_at "nn")) | (apply w_extend; (· wtm_at "lk"); (· wtm_at "gl"); (· wtm_at "nn"))
  | refine w_hcons ?_ | refine w_hnil ?_ | refine w_hname ?_ | (apply w_htup; (· with_unfolding_all rfl)) | (apply w_exT; (· with_unfolding_all rfl))
  | refine w_lcR1 ?_ | refine w_lcL ?_ | refine w_lcT ?_ | refine w_forR1 ?_ | refine w_forR2 ?_ | refine w_forL ?_ | refine w_forT ?_ | refine w_yes ?_ | refine w_cnm ?_ | (apply w_ctp; (· with_unfolding_all rfl))
  | (apply w_exL; (· wtm_at "gl")) | refine w_exTu ?_ | (apply w_exI; (· wtm_at "nn")) | (apply w_exI2; (· wtm_at "nn")) | refine w_exII ?_
  | refine w_lcK ?_ | refine w_fld ?_ | refine w_fldS ?_ | refine w_meth ?_ | refine w_make ?_ | (apply w_fldE; (· wtm_at "lk"); (· with_unfolding_all rfl)) | (apply w_fldSE; (· wtm_at "lk"); (· first | exact insF_lt | (with_unfolding_all exact Nat.le_of_ble_eq_true rfl) | wtm_at "nn")) | (apply w_lenD; (· wtm_at "lk"))
  | refine w_disp ?_ | refine w_pnil ?_ | refine w_pcons ?_ | (apply w_dispE; (· wtm_at "lk"); (· with_unfolding_all rfl); (· wtm_at "nn"))
  | refine w_dget ?_ | refine w_din ?_ | refine w_dget1 ?_ | refine w_dput ?_ | refine w_dpop1 ?_ | refine w_lenSet ?_ | refine w_listRng ?_ | refine w_notInRng ?_
  | (apply w_inK; (· wtm_at "dk"); (· with_unfolding_all rfl)) | (apply w_inT; (· wtm_at "dk"); (· with_unfolding_all exact keyT_lit))
  | (apply w_lkK; (· wtm_at "dk"); (· with_unfolding_all rfl); (· first | exact lv_web | exact lv_age | exact lv_room | exact lv_spots | exact lv_known | exact lv_time)) | (apply w_isK; (· wtm_at "dk")) | (apply w_isT; (· wtm_at "dk"))
  | (apply w_putK; (· wtm_at "lk"); (· with_unfolding_all rfl); (· wtm_at "nn")) | (apply w_putT; (· wtm_at "lk"); (· with_unfolding_all exact keyT_lit); (· wtm_at "nn")))
local macro_rules | `(tactic| wtm_at "bb") => `(tactic| (simp only [isN, Bool.not_true, Bool.not_false, Bool.or_true, Bool.true_or, Bool.or_false, Bool.false_or, Bool.xor_true, Bool.xor_false]; done))
local macro_rules | `(tactic| wtm_at "kt") => `(tactic| with_reducible first | exact kb_tu_tu | exact kb_tu_li | exact kb_tu_bo | exact kb_tu_st | exact kb_tu_in | exact kb_li_tu | exact kb_li_li | exact kb_li_bo | exact kb_li_st | exact kb_li_in | exact kb_No_tu | exact kb_No_li | exact kb_No_bo | exact kb_No_st | exact kb_No_in | exact kb_bo_tu | exact kb_bo_li | exact kb_bo_bo | exact kb_bo_st | exact kb_bo_in | exact kb_in_tu | exact kb_in_li | exact kb_in_bo | exact kb_in_st | exact kb_in_in | exact kb_st_tu | exact kb_st_li | exact kb_st_bo | exact kb_st_st | exact kb_st_in)
local macro_rules | `(tactic| wtm_at "ty") => `(tactic| first | assumption | exact ty_ref (by wtm_at "lk") | (with_unfolding_all exact rfl))
local macro_rules | `(tactic| wtm_at "x") => `(tactic| with_reducible first
  | (apply w_taken; (· wtm_at "lk"); (· wtm_at "nn"); (· wtm_at "nn")) | (apply w_eqD; (· wtm_at "vl"); (· wtm_at "vl"); (· wtm_at "pl"); (· wtm_at "pl")) | (apply w_neD; (· wtm_at "vl"); (· wtm_at "vl"); (· wtm_at "pl"); (· wtm_at "pl"))
  | (apply vR_row; (· assumption)) | (refine vR_frz (by assumption) ?_) | refine frz_let ?_ | refine w_isi ?_ | refine w_isi2 ?_ | (apply w_isiE; (· wtm_at "ty"); (· wtm_at "kt")) | (apply w_isiE2; (· wtm_at "ty"); (· wtm_at "kt"); (· wtm_at "kt"))
  | refine w_iteT rfl ?_ | refine w_iteF rfl ?_ | (apply w_iteT; (· wtm_at "bb")) | (apply w_iteF; (· wtm_at "bb")))
local macro_rules | `(tactic| wtm_at "w") => `(tactic| repeat (first | wtm_at "1" | wtm_at "x"))
theorem w_N_knows {K : PySem.W.Frag} {a : Addr} {st : Mg.NS} {b : Int} {G : Gp} {Q : DK} (hv : NetV K G a st) (hok : NOk st) (h0 : 0 ≤ b) (h1 : b < st.n) (q : ∀ p, G p = none → Q (.ref p) (ud G p (.sm (.lst ((Mg.srt (Mg.knAt st b)).map triD))))) : sp_N_knows K [.ref a, .int b] G Q := ⟨a, st, b, rfl, hv, hok, h0, h1, q⟩
theorem srt_len8 {st : Mg.NS} (hok : NOk st) {b : Int} (h0 : 0 ≤ b) (h1 : b < st.n) : (Mg.srt (Mg.knAt st b)).length ≤ 8 := by
  have hkl := hok.kl
  obtain ⟨nd, hl, _⟩ := hok.kn _ (List.mem_of_getElem? (kn_at (st := st) h0 (by omega)))
  have := hok.r8
  rw [srt_len nd]
  omega
/-- of what is known the entry of a host -/
theorem fm_host {kn : Mg.Kn} (nd : (Mg.kKeys kn).Nodup) {h d s : Int} (e : Mg.kGet kn h = some (d, s)) (f : Int × (Int × Int) → D) : (Mg.srt kn).filterMap (fun p => if p.1 = h then some (f p) else none) = [f (h, (d, s))] := by
  rw [fm_if (fun p : Int × (Int × Int) => p.1 = h) f]
  have := Mg.door_of_list (P := fun _ => true) (h := h) (kn := Mg.srt kn) (Mg.srt_nd nd)
  rw [Mg.srt_get nd, e] at this
  simp only [Bool.and_true, if_true] at this
  rw [this]
  rfl
theorem r_L_moved_since {K : PySem.W.Frag} : Rd 5 (b_L_moved_since K) (sp_L_moved_since K) := by
  rintro _ G Q ⟨x, mv, a, st, b, h, d, s, rfl, hx, hga, hok, ⟨b0, b1⟩, ⟨h0, h1⟩, hk, q⟩
  have hl := srt_len8 hok b0 b1
  wtm_at "st"
  refine vN0 ?_
  unfold b_L_moved_since
  wtm_at "w"
  refine w_methE (netV_ins (st := st) (.inl hga) fun _ => rfl) ?_
  wtm_at "w"
  refine w_N_knows (.inl hga) hok b0 b1 fun p hp => ?_
  have gp : ud G p (.sm (.lst ((Mg.srt (Mg.knAt st b)).map triD))) p = some (.sm (.lst ((Mg.srt (Mg.knAt st b)).map triD))) := ud_same
  have hx2 := lstOf_new (o := .sm (.lst ((Mg.srt (Mg.knAt st b)).map triD))) hx hp
  have fin : ∀ d, Q d G → vRt Q d (ud G p (.sm (.lst ((Mg.srt (Mg.knAt st b)).map triD)))) := fun d qq => vR_sub (sub_new hp sub_refl) qq
  generalize ud G p (.sm (.lst ((Mg.srt (Mg.knAt st b)).map triD))) = G1 at *
  wtm_at "w"
  refine lc_over (fun r => if r.1 = h then some (.int r.2.2) else none) (by omega) (fun y acc hy => lst_ref ((ud_ne (ne_none gp hy)).trans gp)) ?_ ?_
  · rintro r y acc N M hr hy hN hM
    wtm_at "w"
    refine w_ite (fun c => ?_) (fun c => ?_)
    · wtm_at "w"
      exact hN _ (if_pos (of_decide_eq_true c))
    · exact hM (if_neg (of_decide_eq_false c))
  · intro y hy
    rw [fm_host (kn_nd hok b0 b1) hk (fun r => D.int r.2.2)]
    refine vR_frz hy ?_
    wtm_at "w"
    have ha : atI (mv.map D.int) h = some (.int (iAt mv h)) := by
      have hl : h.toNat < mv.length := by omega
      unfold iAt
      rw [atI_pos h0 (by rw [List.length_map]; exact h1), List.getElem?_map, List.getD_eq_getElem?_getD, List.getElem?_eq_getElem hl]
      rfl
    refine w_ixL hx2 ha ?_
    wtm_at "w"
    exact fin _ q
theorem w_L_moved_since {K : PySem.W.Frag} {x : D} {mv : List Int} {a : Addr} {st : Mg.NS} {b h d s : Int} {G : Gp} {Q : DK} (hx : lstOf G x = some (mv.map D.int)) (hga : G a = some (gNet K st)) (hok : NOk st) (hb : 0 ≤ b ∧ b < st.n) (hh : 0 ≤ h ∧ h < mv.length) (hk : Mg.kGet (Mg.knAt st b) h = some (d, s)) (q : Q (.bl (decide (s ≤ iAt mv h))) G) : sp_L_moved_since K [x, .ref a, .int b, .int h] G Q := ⟨x, mv, a, st, b, h, d, s, rfl, hx, hga, hok, hb, hh, hk, q⟩
theorem r_L_all_know {K : PySem.W.Frag} : Rd 6 (b_L_all_know K) (sp_L_all_know K) := by
  rintro _ G Q ⟨a, st, bs, h, rfl, hga, hok, ⟨h0, h1⟩, hall, q⟩
  wtm_at "st"
  refine vN0 ?_
  unfold b_L_all_know
  wtm_at "w"
  rw [List.length_map]
  refine for_st (fun _ (_ : Unit) => True) (fun _ => [some (.ref a), some (.lst (bs.map D.int)), some (.int h), none, none, none]) (fun _ => G) () trivial rfl rfl (fun _ _ _ _ => rfl) ?_ ?_
  · rintro i d ⟨⟩ hi hit _
    obtain ⟨hi2, rfl⟩ := ints_at hit
    obtain ⟨⟨b0, b1⟩, dd, s, hk, hld⟩ := hall _ (List.getElem_mem hi2)
    generalize bs[i] = b at *
    have hl := srt_len8 hok b0 b1
    wtm_at "w"
    refine w_methE (netV_ins (st := st) (.inl hga) fun _ => rfl) ?_
    wtm_at "w"
    refine w_N_knows (.inl hga) hok b0 b1 fun p hp => ?_
    have gp : ud G p (.sm (.lst ((Mg.srt (Mg.knAt st b)).map triD))) p = some (.sm (.lst ((Mg.srt (Mg.knAt st b)).map triD))) := ud_same
    have sub1 : ∀ b' x, G b' = some x → ud G p (.sm (.lst ((Mg.srt (Mg.knAt st b)).map triD))) b' = some x := sub_new hp sub_refl
    generalize ud G p (.sm (.lst ((Mg.srt (Mg.knAt st b)).map triD))) = G1 at *
    wtm_at "w"
    refine lc_over (fun r => if r.1 = h then some (.int r.2.1) else none) (by omega) (fun y acc hy => lst_ref ((ud_ne (ne_none gp hy)).trans gp)) ?_ ?_
    · rintro r y acc N M hr hy hN hM
      wtm_at "w"
      refine w_ite (fun c => ?_) (fun c => ?_)
      · wtm_at "w"
        exact hN _ (if_pos (of_decide_eq_true c))
      · exact hM (if_neg (of_decide_eq_false c))
    · intro y hy
      rw [fm_host (kn_nd hok b0 b1) hk (fun r => D.int r.2.1)]
      have gy : ud G1 y (.sm (.lst [.int dd])) y = some (.sm (.lst [.int dd])) := ud_same
      have sub2 : ∀ b' x, G b' = some x → ud G1 y (.sm (.lst [.int dd])) b' = some x := sub_new hy sub1
      wtm_at "w"
      intro bb hbb
      have : bb = false := by
        cases bb with
        | false => rfl
        | true => have := hbb.mp rfl; simp at this
      subst this
      wtm_at "w"
      refine w_leads (.inl (sub2 _ _ hga)) hok.web h0 h1 fun r hr => ?_
      have : r = true := hr.mpr hld
      subst this
      wtm_at "w"
      exact w_st () trivial (.keep (.keep (.keep (.drop (.drop (.drop .refl)))))) sub2
  · rintro ⟨⟩ _
    wtm_at "w"
    exact vR0 q
theorem w_L_all_know {K : PySem.W.Frag} {a : Addr} {st : Mg.NS} {bs : List Int} {h : Int} {G : Gp} {Q : DK} (hga : G a = some (gNet K st)) (hok : NOk st) (hh : 0 ≤ h ∧ h < st.spots.length) (hall : ∀ b ∈ bs, (0 ≤ b ∧ b < st.n) ∧ ∃ d s, Mg.kGet (Mg.knAt st b) h = some (d, s) ∧ Leads st b d h) (q : Q (.bl true) G) : sp_L_all_know K [.ref a, .lst (bs.map D.int), .int h] G Q := ⟨a, st, bs, h, rfl, hga, hok, hh, hall, q⟩
end Dg
namespace Dg
open PySem PySem.Spec L2
/-- law: slots 0=script 1=row 2=n 3=net_here 4=joined_here 5=hosts 6=moves 7=clear 8=turn 9=deed_here 10=box 11=host 12=door_here 13=end -/
def b_law (K : PySem.W.Frag) : DS :=
    (dSeq (dAsg (dFz (dLst (dCons (dVar 0) (dCons (dC (.int 0)) (dCons (dC (.int 0)) (dCons (dC (.int 0)) dNil)))))) (hName 1))
    (dSeq (dAsg (dCall (sp_L_fresh K) (dCons (dVar 1) (dCons (dCall (sp_L_web K) (dCons (dVar 1) (dCons (dC (.int 0)) dNil))) dNil))) (hName 2))
    (dSeq (dAsg (dCall (sp_L_net K) (dCons (dVar 2) dNil)) (hName 3))
    (dSeq (dAsg (dCall (sp_L_joined K) (dCons (dDGet (dVar 2) (dC (.str "web"))) (dCons (dC .non) dNil))) (hName 4))
    (dSeq (dAsg (dCB cLen (dCons (dDGet (dVar 2) (dC (.str "spots"))) dNil)) (hName 5))
    (dSeq (dAsg (dOp eRep (dFz (dLst (dCons (dOp eSub (dC (.int 0)) (dC (.int 1))) dNil))) (dVar 5)) (hName 6))
    (dSeq (dAsg (dOp eRep (dFz (dLst (dCons (dC (.bl false)) dNil))) (dVar 5)) (hName 7))
    (dSeq (dForR1 (dCons (dCall (sp_L_taken K) (dCons (dVar 1) (dCons (dC (.int 41)) dNil))) dNil) (hName 8) (dSeq (dAsg (dCall (sp_L_deed K) (dCons (dVar 1) (dCons (dVar 2) dNil))) (hName 9))
    (dSeq (dDrop (dCall (sp_L_does K) (dCons (dVar 3) (dCons (dVar 9) dNil))))
    (dSeq (dDPut (dVar 2) (dC (.str "time")) (dOp eIxT (dVar 9) (dC (.int 1))))
    (dSeq (dDPut (dVar 2) (dC (.str "spots")) (dMeth (cN K) "places" (sp_N_places K) (dVar 3) dNil))
    (dSeq (dIfS (dTest (dOp eEq (dOp eIxT (dVar 9) (dC (.int 0))) (dC (.str "move")))) (dSeq (dAsg (dOp eIxT (dVar 9) (dC (.int 1))) (hSub (dVar 6) (dOp eIxT (dVar 9) (dC (.int 2))) eSetL))
    (dAsg (dC (.bl false)) (hSub (dVar 7) (dOp eIxT (dVar 9) (dC (.int 2))) eSetL))) (dIfS (dTest (dIsN (dOp eIxT (dVar 9) (dC (.int 3))))) (dSeq (dAsg (dC (.bl true)) (hSub (dVar 7) (dOp eIxT (dVar 9) (dC (.int 2))) eSetL))
    (dIfS (dNot (dTest (dCall (sp_L_all_know K) (dCons (dVar 3) (dCons (dOp eIxL (dVar 4) (dOp eIxT (dOp eIxL (dDGet (dVar 2) (dC (.str "spots"))) (dOp eIxT (dVar 9) (dC (.int 2)))) (dC (.int 0)))) (dCons (dOp eIxT (dVar 9) (dC (.int 2))) dNil)))))) (dRet (dC (.bl false))) dNext)) dNext))
    (dSeq (dForL (dCall (sp_wrong K) (dCons (dVar 3) (dCons (dDGet (dVar 2) (dC (.str "time"))) dNil))) (hTup 3 (hCons (hName 10) (hCons (hName 11) (hCons (hName 12) hNil)))) (dSeq (dIfS (dOr (dNot (dTest (dCall (sp_L_moved_since K) (dCons (dVar 6) (dCons (dVar 3) (dCons (dVar 10) (dCons (dVar 11) dNil))))))) (dTest (dOp eGt (dDGet (dVar 2) (dC (.str "time"))) (dOp eAdd (dOp eIxL (dVar 6) (dVar 11)) (dDGet (dVar 2) (dC (.str "age"))))))) (dRet (dC (.bl false))) dNext)
    (dIfS (dAnd (dTest (dOp eIxL (dVar 7) (dVar 11))) (dTest (dOp (eInF false) (dVar 10) (dOp eIxL (dVar 4) (dOp eIxT (dOp eIxL (dDGet (dVar 2) (dC (.str "spots"))) (dVar 11)) (dC (.int 0))))))) (dRet (dC (.bl false))) dNext)))
    (dSeq (dAsg (dCall (sp_until K) (dCons (dVar 3) dNil)) (hName 13))
    (dIfS (dOr (dAnd (dTest (dOp eGt (dVar 13) (dDGet (dVar 2) (dC (.str "time"))))) (dTest (dOp eGt (dVar 13) (dOp eAdd (dOp eAdd (dCB cMaxL (dCons (dVar 6) dNil)) (dDGet (dVar 2) (dC (.str "age")))) (dC (.int 1)))))) (dAnd (dTest (dOp eLe (dVar 13) (dC (.int 1000)))) (dTest (dOp eNeD (dCall (sp_wrong K) (dCons (dVar 3) (dCons (dVar 13) dNil))) (dFz (dLst dNil)))))) (dRet (dC (.bl false))) dNext)))))))))
    (dRet (dC (.bl true)))))))))))
end Dg
namespace Dg
open PySem PySem.Spec L2
local macro_rules | `(tactic| wtm_at "ne") => `(tactic| first | assumption | (apply Ne.symm; assumption) | (grind [ud, er]))
local macro_rules | `(tactic| wtm_at "lk") => `(tactic| first | (with_reducible assumption) | (with_reducible exact ud_same) | ((with_reducible refine (ud_ne (by wtm_at "ne")).trans ?_); wtm_at "lk"))
local macro_rules | `(tactic| wtm_at "gl") => `(tactic| first | (with_reducible assumption) | (with_reducible exact lst_ref (by wtm_at "lk")) | (with_reducible exact lstOf_new (by assumption) (by assumption)) | (with_unfolding_all exact rfl))
local macro_rules | `(tactic| wtm_at "vl") => `(tactic| first | (with_reducible exact val_ref (by wtm_at "lk")) | (with_unfolding_all exact rfl))
local macro_rules | `(tactic| wtm_at "dk") => `(tactic| with_reducible first | exact dK_own (by wtm_at "lk") | exact dK_lk (by wtm_at "lk") | exact dT_own (by wtm_at "lk"))
local macro_rules | `(tactic| wtm_at "pl") => `(tactic| with_unfolding_all first | exact rfl | exact all_int _ | exact all_P2 _ | assumption)
local macro_rules | `(tactic| wtm_at "nn") => `(tactic| first | omega | decide | (simp only [List.length_cons, List.length_nil, List.length_map, List.length_append]; omega) | grind)
local macro_rules | `(tactic| wtm_at "st") => `(tactic| (simp only [stD, List.map_cons, List.map_nil, List.length_cons, List.length_nil, List.replicate, Nat.reduceAdd, Nat.reduceSub, List.cons_append, List.nil_append]))
local macro_rules | `(tactic| wtm_at "1") => `(tactic| with_reducible first
  | refine w_seq ?_ | refine w_asgN ?_ | refine w_asgS ?_ | refine w_asgT ?_ | refine w_ret ?_ | refine w_drop ?_ | refine w_ifS ?_ | refine w_test ?_ | refine w_next ?_
  | refine w_nx ?_ | refine w_nx0 ?_ | refine w_rt ?_ | refine w_bk ?_ | refine w_ct ?_
  | refine w_bl2 ?_ | refine w_and ?_ | refine w_or ?_ | refine w_not ?_ | refine w_andV ?_ | refine w_orV ?_ | refine w_notV ?_ | refine w_if ?_
  | (apply w_var; (· with_unfolding_all rfl)) | refine w_c ?_ | refine w_op ?_ | refine w_chain ?_ | refine w_nil ?_ | refine w_cons ?_ | refine w_tup ?_ | refine w_lst ?_
  | (apply w_len; (· wtm_at "nn")) | refine w_call ?_ | refine w_cb ?_ | refine w_isN ?_ | refine w_notN ?_ | refine w_fz ?_
  | refine w_add ?_ | refine w_sub ?_ | refine w_lt ?_ | refine w_le ?_ | refine w_gt ?_ | refine w_ge ?_ | (apply w_mod; (· wtm_at "nn")) | (apply w_div; (· wtm_at "nn"); (· wtm_at "nn"))
  | (apply w_eq; (· with_unfolding_all rfl)) | (apply w_ne; (· with_unfolding_all rfl))
  | (apply w_ixT; (· with_unfolding_all rfl)) | (apply w_ixL; (· wtm_at "gl"); (· with_unfolding_all rfl))
  | refine w_lenT ?_ | (apply w_lenL; (· wtm_at "gl")) | refine w_min2 ?_ | refine w_max2 ?_ | refine w_intB ?_ | (apply w_tupleL; (· wtm_at "gl"))
  | refine w_bm ?_ | refine w_bm0 ?_ | (apply w_ty; (· wtm_at "gl"))
  | (apply w_setL; (· wtm_at "lk"); (· with_unfolding_all rfl)) | (apply w_append; (· wtm_at "lk"); (· wtm_at "nn")) | (apply w_extend; (· wtm_at "lk"); (· wtm_at "gl"); (· wtm_at "nn"))
  | refine w_hcons ?_ | refine w_hnil ?_ | refine w_hname ?_ | (apply w_htup; (· with_unfolding_all rfl)) | (apply w_exT; (· with_unfolding_all rfl))
  | refine w_lcR1 ?_ | refine w_lcL ?_ | refine w_lcT ?_ | refine w_forR1 ?_ | refine w_forR2 ?_ | refine w_forL ?_ | refine w_forT ?_ | refine w_yes ?_ | refine w_cnm ?_ | (apply w_ctp; (· with_unfolding_all rfl))
  | (apply w_exL; (· wtm_at "gl")) | refine w_exTu ?_ | (apply w_exI; (· wtm_at "nn")) | (apply w_exI2; (· wtm_at "nn")) | refine w_exII ?_
  | refine w_lcK ?_ | refine w_fld ?_ | refine w_fldS ?_ | refine w_meth ?_ | refine w_make ?_ | (apply w_fldE; (· wtm_at "lk"); (· with_unfolding_all rfl)) | (apply w_fldSE; (· wtm_at "lk"); (· first | exact insF_lt | (with_unfolding_all exact Nat.le_of_ble_eq_true rfl) | wtm_at "nn")) | (apply w_lenD; (· wtm_at "lk"))
  | refine w_disp ?_ | refine w_pnil ?_ | refine w_pcons ?_ | (apply w_dispE; (· wtm_at "lk"); (· with_unfolding_all rfl); (· wtm_at "nn"))
  | refine w_dget ?_ | refine w_din ?_ | refine w_dget1 ?_ | refine w_dput ?_ | refine w_dpop1 ?_ | refine w_lenSet ?_ | refine w_listRng ?_ | refine w_notInRng ?_
  | (apply w_inK; (· wtm_at "dk"); (· with_unfolding_all rfl)) | (apply w_inT; (· wtm_at "dk"); (· with_unfolding_all exact keyT_lit))
  | (apply w_lkK; (· wtm_at "dk"); (· with_unfolding_all rfl); (· first | exact lv_web | exact lv_age | exact lv_room | exact lv_spots | exact lv_known | exact lv_time)) | (apply w_isK; (· wtm_at "dk")) | (apply w_isT; (· wtm_at "dk"))
  | (apply w_putK; (· wtm_at "lk"); (· with_unfolding_all rfl); (· wtm_at "nn")) | (apply w_putT; (· wtm_at "lk"); (· with_unfolding_all exact keyT_lit); (· wtm_at "nn")))
local macro_rules | `(tactic| wtm_at "bb") => `(tactic| (simp only [isN, Bool.not_true, Bool.not_false, Bool.or_true, Bool.true_or, Bool.or_false, Bool.false_or, Bool.xor_true, Bool.xor_false]; done))
local macro_rules | `(tactic| wtm_at "kt") => `(tactic| with_reducible first | exact kb_tu_tu | exact kb_tu_li | exact kb_tu_bo | exact kb_tu_st | exact kb_tu_in | exact kb_li_tu | exact kb_li_li | exact kb_li_bo | exact kb_li_st | exact kb_li_in | exact kb_No_tu | exact kb_No_li | exact kb_No_bo | exact kb_No_st | exact kb_No_in | exact kb_bo_tu | exact kb_bo_li | exact kb_bo_bo | exact kb_bo_st | exact kb_bo_in | exact kb_in_tu | exact kb_in_li | exact kb_in_bo | exact kb_in_st | exact kb_in_in | exact kb_st_tu | exact kb_st_li | exact kb_st_bo | exact kb_st_st | exact kb_st_in)
local macro_rules | `(tactic| wtm_at "ty") => `(tactic| first | assumption | exact ty_ref (by wtm_at "lk") | (with_unfolding_all exact rfl))
local macro_rules | `(tactic| wtm_at "x") => `(tactic| with_reducible first
  | (apply w_taken; (· wtm_at "lk"); (· wtm_at "nn"); (· wtm_at "nn")) | (apply w_eqD; (· wtm_at "vl"); (· wtm_at "vl"); (· wtm_at "pl"); (· wtm_at "pl")) | (apply w_neD; (· wtm_at "vl"); (· wtm_at "vl"); (· wtm_at "pl"); (· wtm_at "pl"))
  | (apply vR_row; (· assumption)) | (refine vR_frz (by assumption) ?_) | refine frz_let ?_ | refine w_isi ?_ | refine w_isi2 ?_ | (apply w_isiE; (· wtm_at "ty"); (· wtm_at "kt")) | (apply w_isiE2; (· wtm_at "ty"); (· wtm_at "kt"); (· wtm_at "kt"))
  | refine w_iteT rfl ?_ | refine w_iteF rfl ?_ | (apply w_iteT; (· wtm_at "bb")) | (apply w_iteF; (· wtm_at "bb")))
local macro_rules | `(tactic| wtm_at "w") => `(tactic| repeat (first | wtm_at "1" | wtm_at "x"))
theorem deed_send {t h : Int} {to : Option Int} : deedD (.send t h to) = .tup [.str "send", .int t, .int h, optD to] := rfl
theorem deed_move {t h : Int} {p : Int × Int} : deedD (.move t h p) = .tup [.str "move", .int t, .int h, P2 p] := rfl
theorem w_rep {G : Gp} {Q : DK} {x : D} {ds : List D} {k : Int} (h : lstOf G x = some ds) (h0 : -1000 ≤ k) (h1 : k ≤ 1000) (h2 : ds.length ≤ 100) (q : ∀ p, G p = none → Q (.ref p) (ud G p (.sm (.lst (List.replicate k.toNat ds).flatten)))) : eRep x (.int k) G Q := ⟨ds, k, h, rfl, h0, h1, h2, q⟩
theorem mv_at {mv : List Int} {h : Int} (h0 : 0 ≤ h) (h1 : h < mv.length) : atI (mv.map D.int) h = some (.int (iAt mv h)) := by
  have hl : h.toNat < mv.length := by omega
  unfold iAt
  rw [atI_pos h0 (by rw [List.length_map]; exact h1), List.getElem?_map, List.getD_eq_getElem?_getD, List.getElem?_eq_getElem hl]
  rfl
theorem cl_at {cl : List Bool} {h : Int} (h0 : 0 ≤ h) (h1 : h < cl.length) : atI (cl.map D.bl) h = some (.bl (bAt cl h)) := by
  have hl : h.toNat < cl.length := by omega
  unfold bAt
  rw [atI_pos h0 (by rw [List.length_map]; exact h1), List.getElem?_map, List.getD_eq_getElem?_getD, List.getElem?_eq_getElem hl]
  rfl
theorem r_law {K : PySem.W.Frag} : Rd 14 (b_law K) (sp_law K) := by
  rintro _ G Q ⟨sc, ns, rfl, hs, q⟩
  wtm_at "st"
  refine vN0 ?_
  unfold b_law
  obtain ⟨bi, hbi⟩ : ∃ x : DS, x = (dSeq (dForL (dCall (sp_wrong K) (dCons (dVar 3) (dCons (dDGet (dVar 2) (dC (.str "time"))) dNil))) (hTup 3 (hCons (hName 10) (hCons (hName 11) (hCons (hName 12) hNil)))) (dSeq (dIfS (dOr (dNot (dTest (dCall (sp_L_moved_since K) (dCons (dVar 6) (dCons (dVar 3) (dCons (dVar 10) (dCons (dVar 11) dNil))))))) (dTest (dOp eGt (dDGet (dVar 2) (dC (.str "time"))) (dOp eAdd (dOp eIxL (dVar 6) (dVar 11)) (dDGet (dVar 2) (dC (.str "age"))))))) (dRet (dC (.bl false))) dNext) (dIfS (dAnd (dTest (dOp eIxL (dVar 7) (dVar 11))) (dTest (dOp (eInF false) (dVar 10) (dOp eIxL (dVar 4) (dOp eIxT (dOp eIxL (dDGet (dVar 2) (dC (.str "spots"))) (dVar 11)) (dC (.int 0))))))) (dRet (dC (.bl false))) dNext))) (dSeq (dAsg (dCall (sp_until K) (dCons (dVar 3) dNil)) (hName 13)) (dIfS (dOr (dAnd (dTest (dOp eGt (dVar 13) (dDGet (dVar 2) (dC (.str "time"))))) (dTest (dOp eGt (dVar 13) (dOp eAdd (dOp eAdd (dCB cMaxL (dCons (dVar 6) dNil)) (dDGet (dVar 2) (dC (.str "age")))) (dC (.int 1)))))) (dAnd (dTest (dOp eLe (dVar 13) (dC (.int 1000)))) (dTest (dOp eNeD (dCall (sp_wrong K) (dCons (dVar 3) (dCons (dVar 13) dNil))) (dFz (dLst dNil)))))) (dRet (dC (.bl false))) dNext))) := ⟨_, rfl⟩
  rw [← hbi]
  wtm_at "w"
  intro r hr
  wtm_at "w"
  have hr0 : ud (er G sc) r (gRow K) r = some (gRow K) := ud_same
  generalize ud (er G sc) r (gRow K) = G0 at *
  wtm_at "w"
  refine w_L_web hr0 (by omega) (by omega) fun n ls hw hfor => ?_
  have br := forest_br' hw (hfor rfl)
  wtm_at "w"
  refine w_L_fresh hr0 hw fun l st G1 ho hok e1 e2 e3 e4 hsub ha0 hs0 hk0 => ?_
  have hlr := no_of hr0 ha0 hs0 hk0
  have hr1 := hsub r hlr _ hr0
  wtm_at "w"
  refine w_L_net ho hok fun a ha => ?_
  rw [fresh_eq e3 (by rw [e1]; exact e4)]
  have hla := ho.fresh ha
  have har : r ≠ a := ne_none hr1 ha
  have ho2 : LawO (ud G1 a (gNet K st)) l st := ho.frame hla
  have hr2 : ud G1 a (gNet K st) r = some (gRow K) := (ud_ne har).trans hr1
  have ha2 : ud G1 a (gNet K st) a = some (gNet K st) := ud_same
  subst e1
  subst e2
  generalize ud G1 a (gNet K st) = G2 at *
  have gla := ho2.ga
  have gls := ho2.gs
  have h1 := hok.h1
  have h8 := hok.h8
  have ki := KI.fresh (st := st) (fun kn hkn => by rw [e4] at hkn; exact List.eq_of_mem_replicate hkn) hok
  wtm_at "w"
  refine w_L_joinedN hw ?_
  wtm_at "w"
  rw [List.length_map]
  refine w_rep rfl (by omega) (by omega) (by simp) fun pm hpm => ?_
  wtm_at "w"
  refine w_rep rfl (by omega) (by omega) (by simp) fun pc hpc => ?_
  rw [List.flatten_replicate_singleton, List.flatten_replicate_singleton, Int.toNat_natCast] at *
  have em : List.replicate st.spots.length (D.int (0 - 1)) = (List.replicate st.spots.length (-1)).map D.int := by rw [List.map_replicate]; rfl
  have ec : List.replicate st.spots.length (D.bl false) = (List.replicate st.spots.length false).map D.bl := by rw [List.map_replicate]
  rw [em] at hpc ⊢
  rw [ec]
  generalize (List.replicate st.spots.length (-1) : List Int) = mv0 at *
  generalize (List.replicate st.spots.length false : List Bool) = cl0 at *
  have sub3 : ∀ b x, G2 b = some x → ud (ud G2 pm (.sm (.lst (mv0.map D.int)))) pc (.sm (.lst (cl0.map D.bl))) b = some x := sub_new hpc (sub_new hpm sub_refl)
  have hmc : pm ≠ pc := fun z => by rw [← z, ud_same] at hpc; cases hpc
  have g3m : ud (ud G2 pm (.sm (.lst (mv0.map D.int)))) pc (.sm (.lst (cl0.map D.bl))) pm = some (.sm (.lst (mv0.map D.int))) := (ud_ne hmc).trans ud_same
  have g3c : ud (ud G2 pm (.sm (.lst (mv0.map D.int)))) pc (.sm (.lst (cl0.map D.bl))) pc = some (.sm (.lst (cl0.map D.bl))) := ud_same
  have hlm := ho2.fresh hpm
  have hlc : l.no pc := ho2.fresh (by rw [ud_ne (Ne.symm hmc)] at hpc; exact hpc)
  have o3 := ho2.sub sub3
  have g3a := sub3 _ _ ha2
  have g3r := sub3 _ _ hr2
  have ham : a ≠ pm := ne_none ha2 hpm
  have hac : a ≠ pc := fun z => by rw [z, g3c] at g3a; cases g3a
  have hrm : r ≠ pm := ne_none hr2 hpm
  have hrc : r ≠ pc := fun z => by rw [z, g3c] at g3r; cases g3r
  generalize ud (ud G2 pm (.sm (.lst (mv0.map D.int)))) pc (.sm (.lst (cl0.map D.bl))) = G3 at *
  wtm_at "w"
  intro m hm0 hm1
  wtm_at "w"
  obtain ⟨N, hN⟩ : ∃ N, st.n = N := ⟨_, rfl⟩
  obtain ⟨LS, hLS⟩ : ∃ LS, st.ls = LS := ⟨_, rfl⟩
  obtain ⟨H, hH⟩ : ∃ H : Int, (st.spots.length : Int) = H := ⟨_, rfl⟩
  rw [hN, hLS, hH]
  rw [hLS] at br
  refine for_st (fun _ (x : Gp × La × Mg.NS × Mg.NS × List Int × List Bool) => x.1 r = some (gRow K) ∧ LawO x.1 x.2.1 x.2.2.1 ∧ x.1 a = some (gNet K x.2.2.2.1) ∧ NOk x.2.2.2.1 ∧ Tw x.2.2.1 x.2.2.2.1 ∧ (x.2.2.2.1.n = N ∧ x.2.2.2.1.ls = LS ∧ x.2.2.1.spots = x.2.2.2.1.spots) ∧ (x.2.1.no a ∧ x.2.1.no r ∧ x.2.1.no pm ∧ x.2.1.no pc) ∧ x.1 pm = some (.sm (.lst (x.2.2.2.2.1.map D.int))) ∧ x.1 pc = some (.sm (.lst (x.2.2.2.2.2.map D.bl))) ∧ KI x.2.2.2.1 x.2.2.2.2.1 x.2.2.2.2.2) (fun x => [some (.ref sc), some (.ref r), some (.ref x.2.1.a), some (.ref a), some (.lst ((Mg.rangeI N.toNat).map fun u => nearD (nearF N LS none u))), some (.int H), some (.ref pm), some (.ref pc), none, none, none, none, none, none]) (fun x => x.1) (G3, l, st, st, mv0, cl0) ⟨g3r, o3, g3a, hok, Tw.refl hok, ⟨hN, hLS, rfl⟩, ⟨hla, hlr, hlm, hlc⟩, g3m, g3c, ki⟩ rfl rfl (fun _ _ _ _ => trivial) ?_ ?_
  · clear ho2 hr2 ha2 ho hok hsub hr1 e3 e4 gla gls ha0 hs0 hk0 hla hlr ha hN hLS hw hfor o3 g3a g3r g3m g3c ki hlm hlc hpm hpc sub3 em ec h1 h8 hH
    rintro i d ⟨g, l, sl, st0, mv, cl⟩ hi rfl ⟨hgr, ho0, hga0, hok0, tw0, ⟨hN, hLS, hss⟩, ⟨hla, hlr, hlm, hlc⟩, hgm, hgc, ki0⟩
    dsimp only at hgr ho0 hga0 hok0 tw0 hN hLS hss hla hlr hlm hlc hgm hgc ki0 ⊢
    have tail : ∀ (E : DEnds) (dd : D) (g : Gp) (l : La) (sl st : Mg.NS) (mv : List Int) (cl : List Bool), g r = some (gRow K) → LawO g l sl → g a = some (gNet K st) → NOk st → Tw sl st → (st.n = N ∧ st.ls = LS ∧ sl.spots = st.spots) → (l.no a ∧ l.no r ∧ l.no pm ∧ l.no pc) → g pm = some (.sm (.lst (mv.map D.int))) → g pc = some (.sm (.lst (cl.map D.bl))) → KI st mv cl →
        E.nx = vE (Gp × La × Mg.NS × Mg.NS × List Int × List Bool) (fun x => x.1 r = some (gRow K) ∧ LawO x.1 x.2.1 x.2.2.1 ∧ x.1 a = some (gNet K x.2.2.2.1) ∧ NOk x.2.2.2.1 ∧ Tw x.2.2.1 x.2.2.2.1 ∧ (x.2.2.2.1.n = N ∧ x.2.2.2.1.ls = LS ∧ x.2.2.1.spots = x.2.2.2.1.spots) ∧ (x.2.1.no a ∧ x.2.1.no r ∧ x.2.1.no pm ∧ x.2.1.no pc) ∧ x.1 pm = some (.sm (.lst (x.2.2.2.2.1.map D.int))) ∧ x.1 pc = some (.sm (.lst (x.2.2.2.2.2.map D.bl))) ∧ KI x.2.2.2.1 x.2.2.2.2.1 x.2.2.2.2.2) (fun x => [some (.ref sc), some (.ref r), some (.ref x.2.1.a), some (.ref a), some (.lst ((Mg.rangeI N.toNat).map fun u => nearD (nearF N LS none u))), some (.int H), some (.ref pm), some (.ref pc), none, none, none, none, none, none]) (fun x => x.1) → bi E [some (.ref sc), some (.ref r), some (.ref l.a), some (.ref a), some (.lst ((Mg.rangeI N.toNat).map fun u => nearD (nearF N LS none u))), some (.int H), some (.ref pm), some (.ref pc), some (.int (0 + (i : Int))), some dd, none, none, none, none] g := by
      clear hgr ho0 hga0 hok0 tw0 hN hLS hss hla hlr hlm hlc hgm hgc ki0
      rintro ⟨nx, rt, bk, ct⟩ dd g l sl st mv cl hgr ho hga hok tw ⟨hN, hLS, hss⟩ ⟨hla, hlr, hlm, hlc⟩ hgm hgc ki hE
      dsimp only at hE
      rw [hbi]
      have ga := ho.ga
      have enow := tw.now
      have eage := tw.age
      have hwl := wrong_len hok (t := st.now)
      have l1 := ki.l1
      have l2 := ki.l2
      have h1 := hok.h1
      wtm_at "w"
      rw [enow]
      refine w_wrong (.inl hga) hok (Int.le_refl _) hok.t1000 fun p hp => ?_
      have gp : ud g p (.sm (.lst ((wrongF st st.now).map triD))) p = some (.sm (.lst ((wrongF st st.now).map triD))) := ud_same
      have sub1 : ∀ b x, g b = some x → ud g p (.sm (.lst ((wrongF st st.now).map triD))) b = some x := sub_new hp sub_refl
      generalize ud g p (.sm (.lst ((wrongF st st.now).map triD))) = G1 at *
      have o1 := ho.sub sub1
      have ga1 := o1.ga
      have gs1 := o1.gs
      have gm1 := sub1 _ _ hgm
      have gc1 := sub1 _ _ hgc
      wtm_at "w"
      rw [List.length_map]
      refine for_st (fun _ (_ : Unit) => True) (fun _ => [some (.ref sc), some (.ref r), some (.ref l.a), some (.ref a), some (.lst ((Mg.rangeI N.toNat).map fun u => nearD (nearF N LS none u))), some (.int H), some (.ref pm), some (.ref pc), some (.int (0 + (i : Int))), some dd, none, none, none, none]) (fun _ => G1) () trivial rfl rfl (fun _ _ _ _ => lst_ref gp) ?_ ?_
      · rintro j d ⟨⟩ hj hit _
        have hd : d = triD (wrongF st st.now)[j] := by
          rw [List.getElem?_map, List.getElem?_eq_getElem hj] at hit
          exact (Option.some.inj hit).symm
        subst hd
        obtain ⟨seen, k1, k2, k3, k4, k5, k6⟩ := ki.wrong hok (List.getElem_mem hj)
        generalize (wrongF st st.now)[j] = w at *
        have spo := spot_ok hok k5.1 k5.2
        have spo1 : 0 ≤ (Mg.spotF st w.2.1).1 ∧ (Mg.spotF st w.2.1).1 < N := ⟨spo.b0, by rw [← hN]; exact spo.bn⟩
        wtm_at "w"
        refine w_L_moved_since (lst_ref gm1) (sub1 _ _ hga) hok k4 ⟨k5.1, by rw [l1]; exact k5.2⟩ k1 ?_
        rw [decide_eq_true k3]
        wtm_at "w"
        refine w_ixL (lst_ref gm1) (mv_at k5.1 (by rw [l1]; exact k5.2)) ?_
        wtm_at "w"
        rw [enow, eage]
        refine w_iteF (by rw [decide_eq_false_iff_not]; omega) ?_
        wtm_at "w"
        refine w_ixL (lst_ref gc1) (cl_at k5.1 (by rw [l2]; exact k5.2)) ?_
        wtm_at "w"
        refine w_ite (fun c1 => ?_) (fun c1 => ?_)
        · wtm_at "w"
          rw [hss] at gs1
          refine w_ixL (lst_ref gs1) (spot_at (st := st) k5.1 k5.2).1 ?_
          wtm_at "w"
          refine w_ixL rfl (jn_at spo1.1 spo1.2) ?_
          refine w_inFL rfl rfl (all_fl _) fun b2 hb2 => ?_
          rw [int_mem, near_mem] at hb2
          have : b2 = false := by
            cases b2 with
            | false => rfl
            | true =>
              have := (hb2.mp rfl).2
              rw [← hLS] at this
              exact absurd this (k6 c1)
          subst this
          wtm_at "w"
          exact w_se () trivial (.keep (.keep (.keep (.keep (.keep (.keep (.keep (.keep (.keep (.keep (.drop (.drop (.drop (.keep .refl)))))))))))))) rfl
        · wtm_at "w"
          exact w_se () trivial (.keep (.keep (.keep (.keep (.keep (.keep (.keep (.keep (.keep (.keep (.drop (.drop (.drop (.keep .refl)))))))))))))) rfl
      · rintro ⟨⟩ _
        wtm_at "w"
        refine w_until (.inl (sub1 _ _ hga)) hok fun mm hmm => ?_
        have fin : ∀ (G5 : Gp) (x10 x11 x12 x13 : Option D), (∀ b x, g b = some x → G5 b = some x) → nx [some (.ref sc), some (.ref r), some (.ref l.a), some (.ref a), some (.lst ((Mg.rangeI N.toNat).map fun u => nearD (nearF N LS none u))), some (.int H), some (.ref pm), some (.ref pc), some (.int (0 + (i : Int))), some dd, x10, x11, x12, x13] G5 := fun G5 x10 x11 x12 x13 sub5 => by
          rw [hE]
          exact w_st (g, l, sl, st, mv, cl) ⟨hgr, ho, hga, hok, tw, ⟨hN, hLS, hss⟩, ⟨hla, hlr, hlm, hlc⟩, hgm, hgc, ki⟩ (.keep (.keep (.keep (.keep (.keep (.keep (.keep (.keep (.drop (.drop (.drop (.drop (.drop (.drop .refl)))))))))))))) sub5
        have hnm := until_now hmm
        have enil : wrongF st mm = [] := (until_end hok hmm hnm (Int.le_refl _)).mpr rfl
        wtm_at "w"
        rw [enow]
        refine w_ite (fun c1 => ?_) (fun c1 => ?_)
        · have hlt : st.now < mm := of_decide_eq_true c1
          wtm_at "w"
          refine w_maxL (lst_ref gm1) (fun z => by rw [z] at l1; simp at l1; omega) fun mx hmx1 hmx2 => ?_
          have hun := ki.until hok hmm hmx2 hlt
          wtm_at "w"
          rw [eage]
          refine w_iteF (by rw [decide_eq_false_iff_not]; omega) ?_
          wtm_at "w"
          refine w_ite (fun c3 => ?_) (fun c3 => ?_)
          · have hle : mm ≤ 1000 := of_decide_eq_true c3
            wtm_at "w"
            refine w_wrong (.inl (sub1 _ _ hga)) hok hnm hle fun p2 hp2 => ?_
            rw [enil]
            have gp2 : ud G1 p2 (.sm (.lst (([] : List (Int × (Int × Int))).map triD))) p2 = some (.sm (.lst (([] : List (Int × (Int × Int))).map triD))) := ud_same
            wtm_at "w"
            intro b5 hb5
            have : b5 = true := hb5.mpr rfl
            subst this
            wtm_at "w"
            exact fin _ _ _ _ _ (sub_new hp2 sub1)
          · wtm_at "w"
            exact fin _ _ _ _ _ sub1
        · wtm_at "w"
          refine w_ite (fun c3 => ?_) (fun c3 => ?_)
          · have hle : mm ≤ 1000 := of_decide_eq_true c3
            wtm_at "w"
            refine w_wrong (.inl (sub1 _ _ hga)) hok hnm hle fun p2 hp2 => ?_
            rw [enil]
            have gp2 : ud G1 p2 (.sm (.lst (([] : List (Int × (Int × Int))).map triD))) p2 = some (.sm (.lst (([] : List (Int × (Int × Int))).map triD))) := ud_same
            wtm_at "w"
            intro b5 hb5
            have : b5 = true := hb5.mpr rfl
            subst this
            wtm_at "w"
            exact fin _ _ _ _ _ (sub_new hp2 sub1)
          · wtm_at "w"
            exact fin _ _ _ _ _ sub1
    wtm_at "w"
    refine w_L_deed hgr ho0 tw0.ok fun dd hdl => ?_
    have hdd := tw0.deed hdl
    have hok := after_ok hok0 hdd
    have tw := tw0.both hok0 hdd
    obtain ⟨s1, s2, _, _, s5⟩ := after_same hok0 hdd
    have br0 : Mg.Br st0.ls := by rw [hLS]; exact br
    wtm_at "w"
    refine w_does hga0 hok0 hdd fun g1 _ g1a sub1 => ?_
    have g1r := sub1 r har _ hgr
    have o1 := ho0.subN hla sub1
    have g1m := sub1 pm (Ne.symm ham) _ hgm
    have g1c := sub1 pc (Ne.symm hac) _ hgc
    wtm_at "w"
    refine w_deed1 ?_
    wtm_at "w"
    refine w_putK o1.ga rfl (by show 6 < _; decide) ?_
    rw [lv_put]
    have o2 := o1.setT dd.t
    have g2a := (ud_ne (G := g1) (g := .sm (.dK (lawKv l { sl with now := dd.t }))) hla.1).trans g1a
    have g2r := (ud_ne (G := g1) (g := .sm (.dK (lawKv l { sl with now := dd.t }))) hlr.1).trans g1r
    have g2m := (ud_ne (G := g1) (g := .sm (.dK (lawKv l { sl with now := dd.t }))) hlm.1).trans g1m
    have g2c := (ud_ne (G := g1) (g := .sm (.dK (lawKv l { sl with now := dd.t }))) hlc.1).trans g1c
    generalize ud g1 l.a (.sm (.dK (lawKv l { sl with now := dd.t }))) = G2 at *
    wtm_at "w"
    refine w_methE (netV_ins (st := afterF st0 dd) (.inl g2a) fun _ => rfl) ?_
    wtm_at "w"
    refine w_N_places (.inl g2a) fun p2 hp2 => ?_
    have n2 := o2.fresh hp2
    have o3 := o2.new (x := .sm (.lst ((afterF st0 dd).spots.map P2))) hp2
    wtm_at "w"
    refine w_putK o3.ga rfl (by show 6 < _; decide) ?_
    rw [lv_putS (sp := (afterF st0 dd).spots)]
    have oA : LawO (ud (ud G2 p2 (.sm (.lst ((afterF st0 dd).spots.map P2)))) l.a (.sm (.dK (lawKv { l with s := p2 } { sl with now := dd.t, spots := (afterF st0 dd).spots })))) { l with s := p2 } { sl with now := dd.t, spots := (afterF st0 dd).spots } := ⟨ud_same, (ud_ne n2.1).trans ud_same, (ud_ne (Ne.symm o2.ak)).trans o3.gk, Ne.symm n2.1, o2.ak, n2.2.2⟩
    have keep : ∀ b x, b ≠ l.a → G2 b = some x → ud (ud G2 p2 (.sm (.lst ((afterF st0 dd).spots.map P2)))) l.a (.sm (.dK (lawKv { l with s := p2 } { sl with now := dd.t, spots := (afterF st0 dd).spots }))) b = some x := fun b x hb hx => (ud_ne hb).trans ((ud_ne (ne_none hx hp2)).trans hx)
    have gAa := keep _ _ hla.1 g2a
    have gAr := keep _ _ hlr.1 g2r
    have gAm := keep _ _ hlm.1 g2m
    have gAc := keep _ _ hlc.1 g2c
    have nA : ({ l with s := p2 } : La).no a ∧ ({ l with s := p2 } : La).no r ∧ ({ l with s := p2 } : La).no pm ∧ ({ l with s := p2 } : La).no pc := ⟨⟨hla.1, ne_none g2a hp2, hla.2.2⟩, ⟨hlr.1, ne_none g2r hp2, hlr.2.2⟩, ⟨hlm.1, ne_none g2m hp2, hlm.2.2⟩, ⟨hlc.1, ne_none g2c hp2, hlc.2.2⟩⟩
    generalize ud (ud G2 p2 (.sm (.lst ((afterF st0 dd).spots.map P2)))) l.a (.sm (.dK (lawKv { l with s := p2 } { sl with now := dd.t, spots := (afterF st0 dd).spots }))) = GA at *
    have eNL : (afterF st0 dd).n = N ∧ (afterF st0 dd).ls = LS ∧ ({ sl with now := dd.t, spots := (afterF st0 dd).spots } : Mg.NS).spots = (afterF st0 dd).spots := ⟨s1.trans hN, s2.trans hLS, rfl⟩
    have l1 := ki0.l1
    have l2 := ki0.l2
    cases dd with
    | move t h p =>
      have hd2 : DeedOk st0 (.move t h p) := hdd
      obtain ⟨d1, d2, d3, d4, d5⟩ := hdd
      have ki := ki0.move hok0 hd2
      rw [deed_move]
      wtm_at "w"
      refine w_setL gAm (ixN_pos d3 (by rw [List.length_map, l1]; exact d4)) ?_
      wtm_at "w"
      refine w_setL ((ud_ne (Ne.symm hmc)).trans gAc) (ixN_pos d3 (by rw [List.length_map, l2]; exact d4)) ?_
      wtm_at "w"
      have e1 : (mv.map D.int).set h.toNat (.int t) = (mv.set h.toNat t).map D.int := by rw [List.map_set]
      have e2 : (cl.map D.bl).set h.toNat (.bl false) = (cl.set h.toNat false).map D.bl := by rw [List.map_set]
      rw [e1, e2]
      exact tail _ _ _ { l with s := p2 } _ _ (mv.set h.toNat t) (cl.set h.toNat false) ((ud_ne hrc).trans ((ud_ne hrm).trans gAr)) ((oA.frame nA.2.2.1).frame nA.2.2.2) ((ud_ne hac).trans ((ud_ne ham).trans gAa)) hok tw eNL nA ((ud_ne hmc).trans ud_same) ud_same ki rfl
    | send t h to =>
      have hl : LtOk st0 t h to := hdd
      obtain ⟨ki1, ki2⟩ := ki0.send hok0 hl br0
      rw [deed_send]
      wtm_at "w"
      cases to with
      | some z =>
        wtm_at "w"
        exact tail _ _ _ { l with s := p2 } _ _ mv cl gAr oA gAa hok tw eNL nA gAm gAc ki1 rfl
      | none =>
        have h0 := hl.2.2.1
        have h1 := hl.2.2.2.1
        have spo := spot_ok hok0 h0 h1
        have h1' : h < ((afterF st0 (.send t h none)).spots.length : Int) := by rw [s5]; exact h1
        have esp : Mg.spotF (afterF st0 (.send t h none)) h = Mg.spotF st0 h := spot_send hok0 hl
        have spb : 0 ≤ (Mg.spotF st0 h).1 ∧ (Mg.spotF st0 h).1 < N := ⟨spo.b0, by rw [← hN]; exact spo.bn⟩
        wtm_at "w"
        refine w_setL gAc (ixN_pos h0 (by rw [List.length_map, l2]; exact h1)) ?_
        have e2 : (cl.map D.bl).set h.toNat (.bl true) = (cl.set h.toNat true).map D.bl := by rw [List.map_set]
        rw [e2]
        have oB : LawO (ud GA pc (.sm (.lst ((cl.set h.toNat true).map D.bl)))) { l with s := p2 } { sl with now := t, spots := (afterF st0 (.send t h none)).spots } := oA.frame nA.2.2.2
        have gBs := oB.gs
        have gBl := oB.ga
        have gBa : ud GA pc (.sm (.lst ((cl.set h.toNat true).map D.bl))) a = some (gNet K (afterF st0 (.send t h none))) := (ud_ne hac).trans gAa
        have gBr : ud GA pc (.sm (.lst ((cl.set h.toNat true).map D.bl))) r = some (gRow K) := (ud_ne hrc).trans gAr
        have gBm : ud GA pc (.sm (.lst ((cl.set h.toNat true).map D.bl))) pm = some (.sm (.lst (mv.map D.int))) := (ud_ne hmc).trans gAm
        have gBc : ud GA pc (.sm (.lst ((cl.set h.toNat true).map D.bl))) pc = some (.sm (.lst ((cl.set h.toNat true).map D.bl))) := ud_same
        generalize ud GA pc (.sm (.lst ((cl.set h.toNat true).map D.bl))) = GB at *
        wtm_at "w"
        refine w_ixL (lst_ref gBs) ((spot_at (st := afterF st0 (.send t h none)) h0 h1').1.trans (by rw [esp])) ?_
        wtm_at "w"
        refine w_ixL rfl (jn_at spb.1 spb.2) ?_
        wtm_at "w"
        refine w_L_all_know gBa hok ⟨h0, h1'⟩ (fun b hb => ?_) ?_
        · obtain ⟨b0, b1⟩ := near_mem.mp hb
          rw [← hLS] at b1
          obtain ⟨c, hc, rfl⟩ := all_boxes hok0 hl br0 b1
          refine ⟨⟨b0.1, by rw [eNL.1]; exact b0.2⟩, c.2, t, known_come hok0 hl br0 hc, ?_⟩
          exact (leads_send hok0 hl).mpr (come_leads hok0 hl br0 hc)
        · wtm_at "w"
          exact tail _ _ _ { l with s := p2 } _ _ mv (cl.set h.toNat true) gBr oB gBa hok tw eNL nA gBm gBc (ki2 rfl) rfl
  · rintro ⟨g, l, sl, st, mv, cl⟩ _
    wtm_at "w"
    exact vR0 (q _)
end Dg
namespace Dg
open PySem PySem.Spec L2 Hd
structure Tx (K : PySem.W.Frag) (mg : Str → Option Value) : Prop where
  d_is_door : ∃ fd, FunD K "is_door" "is_door" (defArgs s_is_door) (defBody s_is_door) (defScope s_is_door) [] [] (He.fAd K ("is_door", none)) fd
  g_is_door : mg "is_door" = some (.ref (He.fAd K ("is_door", none)))
  d_need_web : ∃ fd, FunD K "need_web" "need_web" (defArgs s_need_web) (defBody s_need_web) (defScope s_need_web) [] [] (He.fAd K ("need_web", none)) fd
  g_need_web : mg "need_web" = some (.ref (He.fAd K ("need_web", none)))
  d_boxes_from : ∃ fd, FunD K "boxes_from" "boxes_from" (defArgs s_boxes_from) (defBody s_boxes_from) (defScope s_boxes_from) [] [] (He.fAd K ("boxes_from", none)) fd
  g_boxes_from : mg "boxes_from" = some (.ref (He.fAd K ("boxes_from", none)))
  d_leads : ∃ fd, FunD K "leads" "leads" (defArgs s_leads) (defBody s_leads) (defScope s_leads) [] [] (He.fAd K ("leads", none)) fd
  g_leads : mg "leads" = some (.ref (He.fAd K ("leads", none)))
  d_wrong : ∃ fd, FunD K "wrong" "wrong" (defArgs s_wrong) (defBody s_wrong) (defScope s_wrong) [] [] (He.fAd K ("wrong", none)) fd
  g_wrong : mg "wrong" = some (.ref (He.fAd K ("wrong", none)))
  d_until : ∃ fd, FunD K "until" "until" (defArgs s_until) (defBody s_until) (defScope s_until) [] [] (He.fAd K ("until", none)) fd
  g_until : mg "until" = some (.ref (He.fAd K ("until", none)))
  d_L_taken : ∃ fd, FunD K "_law_taken" "_law_taken" (defArgs sL_taken) (defBody sL_taken) (defScope sL_taken) [] [] (He.fAd K ("_law_taken", none)) fd
  g_L_taken : mg "_law_taken" = some (.ref (He.fAd K ("_law_taken", none)))
  d_L_free : ∃ fd, FunD K "_law_free" "_law_free" (defArgs sL_free) (defBody sL_free) (defScope sL_free) [] [] (He.fAd K ("_law_free", none)) fd
  g_L_free : mg "_law_free" = some (.ref (He.fAd K ("_law_free", none)))
  d_L_link : ∃ fd, FunD K "_law_link" "_law_link" (defArgs sL_link) (defBody sL_link) (defScope sL_link) [] [] (He.fAd K ("_law_link", none)) fd
  g_L_link : mg "_law_link" = some (.ref (He.fAd K ("_law_link", none)))
  d_L_web : ∃ fd, FunD K "_law_web" "_law_web" (defArgs sL_web) (defBody sL_web) (defScope sL_web) [] [] (He.fAd K ("_law_web", none)) fd
  g_L_web : mg "_law_web" = some (.ref (He.fAd K ("_law_web", none)))
  d_L_ends : ∃ fd, FunD K "_law_ends" "_law_ends" (defArgs sL_ends) (defBody sL_ends) (defScope sL_ends) [] [] (He.fAd K ("_law_ends", none)) fd
  g_L_ends : mg "_law_ends" = some (.ref (He.fAd K ("_law_ends", none)))
  d_L_places : ∃ fd, FunD K "_law_places" "_law_places" (defArgs sL_places) (defBody sL_places) (defScope sL_places) [] [] (He.fAd K ("_law_places", none)) fd
  g_L_places : mg "_law_places" = some (.ref (He.fAd K ("_law_places", none)))
  d_L_fresh : ∃ fd, FunD K "_law_fresh" "_law_fresh" (defArgs sL_fresh) (defBody sL_fresh) (defScope sL_fresh) [] [] (He.fAd K ("_law_fresh", none)) fd
  g_L_fresh : mg "_law_fresh" = some (.ref (He.fAd K ("_law_fresh", none)))
  d_L_net : ∃ fd, FunD K "_law_net" "_law_net" (defArgs sL_net) (defBody sL_net) (defScope sL_net) [] [] (He.fAd K ("_law_net", none)) fd
  g_L_net : mg "_law_net" = some (.ref (He.fAd K ("_law_net", none)))
  d_L_door : ∃ fd, FunD K "_law_door" "_law_door" (defArgs sL_door) (defBody sL_door) (defScope sL_door) [] [] (He.fAd K ("_law_door", none)) fd
  g_L_door : mg "_law_door" = some (.ref (He.fAd K ("_law_door", none)))
  d_L_learn : ∃ fd, FunD K "_law_learn" "_law_learn" (defArgs sL_learn) (defBody sL_learn) (defScope sL_learn) [] [] (He.fAd K ("_law_learn", none)) fd
  g_L_learn : mg "_law_learn" = some (.ref (He.fAd K ("_law_learn", none)))
  d_L_send : ∃ fd, FunD K "_law_send" "_law_send" (defArgs sL_send) (defBody sL_send) (defScope sL_send) [] [] (He.fAd K ("_law_send", none)) fd
  g_L_send : mg "_law_send" = some (.ref (He.fAd K ("_law_send", none)))
  d_L_deed : ∃ fd, FunD K "_law_deed" "_law_deed" (defArgs sL_deed) (defBody sL_deed) (defScope sL_deed) [] [] (He.fAd K ("_law_deed", none)) fd
  g_L_deed : mg "_law_deed" = some (.ref (He.fAd K ("_law_deed", none)))
  d_L_due : ∃ fd, FunD K "_law_due" "_law_due" (defArgs sL_due) (defBody sL_due) (defScope sL_due) [] [] (He.fAd K ("_law_due", none)) fd
  g_L_due : mg "_law_due" = some (.ref (He.fAd K ("_law_due", none)))
  d_L_does : ∃ fd, FunD K "_law_does" "_law_does" (defArgs sL_does) (defBody sL_does) (defScope sL_does) [] [] (He.fAd K ("_law_does", none)) fd
  g_L_does : mg "_law_does" = some (.ref (He.fAd K ("_law_does", none)))
  d_L_joined : ∃ fd, FunD K "_law_joined" "_law_joined" (defArgs sL_joined) (defBody sL_joined) (defScope sL_joined) [] [] (He.fAd K ("_law_joined", none)) fd
  g_L_joined : mg "_law_joined" = some (.ref (He.fAd K ("_law_joined", none)))
  d_L_leads : ∃ fd, FunD K "_law_leads" "_law_leads" (defArgs sL_leads) (defBody sL_leads) (defScope sL_leads) [] [] (He.fAd K ("_law_leads", none)) fd
  g_L_leads : mg "_law_leads" = some (.ref (He.fAd K ("_law_leads", none)))
  d_L_wrong : ∃ fd, FunD K "_law_wrong" "_law_wrong" (defArgs sL_wrong) (defBody sL_wrong) (defScope sL_wrong) [] [] (He.fAd K ("_law_wrong", none)) fd
  g_L_wrong : mg "_law_wrong" = some (.ref (He.fAd K ("_law_wrong", none)))
  d_L_moved_since : ∃ fd, FunD K "_law_moved_since" "_law_moved_since" (defArgs sL_moved_since) (defBody sL_moved_since) (defScope sL_moved_since) [] [] (He.fAd K ("_law_moved_since", none)) fd
  g_L_moved_since : mg "_law_moved_since" = some (.ref (He.fAd K ("_law_moved_since", none)))
  d_L_all_know : ∃ fd, FunD K "_law_all_know" "_law_all_know" (defArgs sL_all_know) (defBody sL_all_know) (defScope sL_all_know) [] [] (He.fAd K ("_law_all_know", none)) fd
  g_L_all_know : mg "_law_all_know" = some (.ref (He.fAd K ("_law_all_know", none)))
  d_law : ∃ fd, FunD K "law" "law" (defArgs s_law) (defBody s_law) (defScope s_law) [] [] (He.fAd K ("law", none)) fd
  g_law : mg "law" = some (.ref (He.fAd K ("law", none)))
  cls : Cls K (cN K)
  mkN : Mk K (cN K) (He.fAd K ("Net", some "__init__"))
  g_Net : mg "Net" = some (.ref (cN K))
  n_age : NoAttr K (cN K) "age"
  n_ends : NoAttr K (cN K) "ends"
  n_known : NoAttr K (cN K) "known"
  n_now : NoAttr K (cN K) "now"
  n_room : NoAttr K (cN K) "room"
  n_spots : NoAttr K (cN K) "spots"
  n_web : NoAttr K (cN K) "web"
  d_N_init : ∃ fd, FunD K "__init__" "Net.__init__" (defArgs s_Net___init__) (defBody s_Net___init__) (defScope s_Net___init__) [] [] (He.fAd K ("Net", some "__init__")) fd
  d_N_need_place : ∃ fd, FunD K "need_place" "Net.need_place" (defArgs s_Net_need_place) (defBody s_Net_need_place) (defScope s_Net_need_place) [] [] (He.fAd K ("Net", some "need_place")) fd
  e_N_need_place : Meth K (cN K) "need_place" (He.fAd K ("Net", some "need_place"))
  d_N_need_time : ∃ fd, FunD K "need_time" "Net.need_time" (defArgs s_Net_need_time) (defBody s_Net_need_time) (defScope s_Net_need_time) [] [] (He.fAd K ("Net", some "need_time")) fd
  e_N_need_time : Meth K (cN K) "need_time" (He.fAd K ("Net", some "need_time"))
  d_N_need_host : ∃ fd, FunD K "need_host" "Net.need_host" (defArgs s_Net_need_host) (defBody s_Net_need_host) (defScope s_Net_need_host) [] [] (He.fAd K ("Net", some "need_host")) fd
  e_N_need_host : Meth K (cN K) "need_host" (He.fAd K ("Net", some "need_host"))
  d_N_need_letter : ∃ fd, FunD K "need_letter" "Net.need_letter" (defArgs s_Net_need_letter) (defBody s_Net_need_letter) (defScope s_Net_need_letter) [] [] (He.fAd K ("Net", some "need_letter")) fd
  e_N_need_letter : Meth K (cN K) "need_letter" (He.fAd K ("Net", some "need_letter"))
  d_N_hosts_at : ∃ fd, FunD K "hosts_at" "Net.hosts_at" (defArgs s_Net_hosts_at) (defBody s_Net_hosts_at) (defScope s_Net_hosts_at) [] [] (He.fAd K ("Net", some "hosts_at")) fd
  e_N_hosts_at : Meth K (cN K) "hosts_at" (He.fAd K ("Net", some "hosts_at"))
  d_N_door_of : ∃ fd, FunD K "door_of" "Net.door_of" (defArgs s_Net_door_of) (defBody s_Net_door_of) (defScope s_Net_door_of) [] [] (He.fAd K ("Net", some "door_of")) fd
  e_N_door_of : Meth K (cN K) "door_of" (He.fAd K ("Net", some "door_of"))
  d_N_learn : ∃ fd, FunD K "learn" "Net.learn" (defArgs s_Net_learn) (defBody s_Net_learn) (defScope s_Net_learn) [] [] (He.fAd K ("Net", some "learn")) fd
  e_N_learn : Meth K (cN K) "learn" (He.fAd K ("Net", some "learn"))
  d_N_doors_out : ∃ fd, FunD K "doors_out" "Net.doors_out" (defArgs s_Net_doors_out) (defBody s_Net_doors_out) (defScope s_Net_doors_out) [] [] (He.fAd K ("Net", some "doors_out")) fd
  e_N_doors_out : Meth K (cN K) "doors_out" (He.fAd K ("Net", some "doors_out"))
  d_N_send : ∃ fd, FunD K "send" "Net.send" (defArgs s_Net_send) (defBody s_Net_send) (defScope s_Net_send) [] [] (He.fAd K ("Net", some "send")) fd
  e_N_send : Meth K (cN K) "send" (He.fAd K ("Net", some "send"))
  d_N_move : ∃ fd, FunD K "move" "Net.move" (defArgs s_Net_move) (defBody s_Net_move) (defScope s_Net_move) [] [] (He.fAd K ("Net", some "move")) fd
  e_N_move : Meth K (cN K) "move" (He.fAd K ("Net", some "move"))
  d_N_time : ∃ fd, FunD K "time" "Net.time" (defArgs s_Net_time) (defBody s_Net_time) (defScope s_Net_time) [] [] (He.fAd K ("Net", some "time")) fd
  e_N_time : Meth K (cN K) "time" (He.fAd K ("Net", some "time"))
  d_N_places : ∃ fd, FunD K "places" "Net.places" (defArgs s_Net_places) (defBody s_Net_places) (defScope s_Net_places) [] [] (He.fAd K ("Net", some "places")) fd
  e_N_places : Meth K (cN K) "places" (He.fAd K ("Net", some "places"))
  d_N_knows : ∃ fd, FunD K "knows" "Net.knows" (defArgs s_Net_knows) (defBody s_Net_knows) (defScope s_Net_knows) [] [] (He.fAd K ("Net", some "knows")) fd
  e_N_knows : Meth K (cN K) "knows" (He.fAd K ("Net", some "knows"))
  m_ValueError : mg "ValueError" = none
  m_int : mg "int" = none
  m_len : mg "len" = none
  m_list : mg "list" = none
  m_max : mg "max" = none
  m_min : mg "min" = none
  m_range : mg "range" = none
  m_set : mg "set" = none
  m_sorted : mg "sorted" = none
  m_tuple : mg "tuple" = none
  i_MOST_BOXES : ∃ t, mg "MOST_BOXES" = some (.int 6 t)
  i_DOORS : ∃ t, mg "DOORS" = some (.int 4 t)
  i_MOST_LINKS : ∃ t, mg "MOST_LINKS" = some (.int 10 t)
  i_MOST_AGE : ∃ t, mg "MOST_AGE" = some (.int 20 t)
  i_MOST_ROOM : ∃ t, mg "MOST_ROOM" = some (.int 8 t)
  i_MOST_HOSTS : ∃ t, mg "MOST_HOSTS" = some (.int 8 t)
  i_MOST_TIME : ∃ t, mg "MOST_TIME" = some (.int 1000 t)
  i_MOST_STEPS : ∃ t, mg "MOST_STEPS" = some (.int 60 t)
theorem tx {K : PySem.W.Frag} {h : Heap} {mg : Str → Option Value} (X : K.In h) (G : h.Ns mainGlobals mg) (c : He.SaysD fa fn K) : Tx K mg :=
  ⟨c.def_ 0 (d := ds_is_door) rfl,
    He.glo_ok X G (c.fact 0 (f := .glo "is_door") rfl),
    c.def_ 1 (d := ds_need_web) rfl,
    He.glo_ok X G (c.fact 1 (f := .glo "need_web") rfl),
    c.def_ 2 (d := ds_boxes_from) rfl,
    He.glo_ok X G (c.fact 2 (f := .glo "boxes_from") rfl),
    c.def_ 3 (d := ds_leads) rfl,
    He.glo_ok X G (c.fact 3 (f := .glo "leads") rfl),
    c.def_ 4 (d := ds_wrong) rfl,
    He.glo_ok X G (c.fact 4 (f := .glo "wrong") rfl),
    c.def_ 5 (d := ds_until) rfl,
    He.glo_ok X G (c.fact 5 (f := .glo "until") rfl),
    c.def_ 6 (d := dsL_taken) rfl,
    He.glo_ok X G (c.fact 6 (f := .glo "_law_taken") rfl),
    c.def_ 7 (d := dsL_free) rfl,
    He.glo_ok X G (c.fact 7 (f := .glo "_law_free") rfl),
    c.def_ 8 (d := dsL_link) rfl,
    He.glo_ok X G (c.fact 8 (f := .glo "_law_link") rfl),
    c.def_ 9 (d := dsL_web) rfl,
    He.glo_ok X G (c.fact 9 (f := .glo "_law_web") rfl),
    c.def_ 10 (d := dsL_ends) rfl,
    He.glo_ok X G (c.fact 10 (f := .glo "_law_ends") rfl),
    c.def_ 11 (d := dsL_places) rfl,
    He.glo_ok X G (c.fact 11 (f := .glo "_law_places") rfl),
    c.def_ 12 (d := dsL_fresh) rfl,
    He.glo_ok X G (c.fact 12 (f := .glo "_law_fresh") rfl),
    c.def_ 13 (d := dsL_net) rfl,
    He.glo_ok X G (c.fact 13 (f := .glo "_law_net") rfl),
    c.def_ 14 (d := dsL_door) rfl,
    He.glo_ok X G (c.fact 14 (f := .glo "_law_door") rfl),
    c.def_ 15 (d := dsL_learn) rfl,
    He.glo_ok X G (c.fact 15 (f := .glo "_law_learn") rfl),
    c.def_ 16 (d := dsL_send) rfl,
    He.glo_ok X G (c.fact 16 (f := .glo "_law_send") rfl),
    c.def_ 17 (d := dsL_deed) rfl,
    He.glo_ok X G (c.fact 17 (f := .glo "_law_deed") rfl),
    c.def_ 18 (d := dsL_due) rfl,
    He.glo_ok X G (c.fact 18 (f := .glo "_law_due") rfl),
    c.def_ 19 (d := dsL_does) rfl,
    He.glo_ok X G (c.fact 19 (f := .glo "_law_does") rfl),
    c.def_ 20 (d := dsL_joined) rfl,
    He.glo_ok X G (c.fact 20 (f := .glo "_law_joined") rfl),
    c.def_ 21 (d := dsL_leads) rfl,
    He.glo_ok X G (c.fact 21 (f := .glo "_law_leads") rfl),
    c.def_ 22 (d := dsL_wrong) rfl,
    He.glo_ok X G (c.fact 22 (f := .glo "_law_wrong") rfl),
    c.def_ 23 (d := dsL_moved_since) rfl,
    He.glo_ok X G (c.fact 23 (f := .glo "_law_moved_since") rfl),
    c.def_ 24 (d := dsL_all_know) rfl,
    He.glo_ok X G (c.fact 24 (f := .glo "_law_all_know") rfl),
    c.def_ 25 (d := ds_law) rfl,
    He.glo_ok X G (c.fact 25 (f := .glo "law") rfl),
    He.cls_ok (c.fact 33 (f := .cls "Net") rfl),
    He.mkr_ok (c.fact 34 (f := .mkr "Net") rfl),
    He.glo_ok X G (c.fact 32 (f := .glo "Net") rfl),
    He.noat_ok (c.fact 49 (f := .noat "Net" "age") rfl),
    He.noat_ok (c.fact 50 (f := .noat "Net" "ends") rfl),
    He.noat_ok (c.fact 51 (f := .noat "Net" "known") rfl),
    He.noat_ok (c.fact 52 (f := .noat "Net" "now") rfl),
    He.noat_ok (c.fact 53 (f := .noat "Net" "room") rfl),
    He.noat_ok (c.fact 54 (f := .noat "Net" "spots") rfl),
    He.noat_ok (c.fact 55 (f := .noat "Net" "web") rfl),
    c.def_ 28 (d := ds_Net___init__) rfl,
    c.def_ 29 (d := ds_Net_need_place) rfl,
    He.meth_ok (c.fact 36 (f := .meth "Net" "need_place") rfl),
    c.def_ 30 (d := ds_Net_need_time) rfl,
    He.meth_ok (c.fact 37 (f := .meth "Net" "need_time") rfl),
    c.def_ 31 (d := ds_Net_need_host) rfl,
    He.meth_ok (c.fact 38 (f := .meth "Net" "need_host") rfl),
    c.def_ 32 (d := ds_Net_need_letter) rfl,
    He.meth_ok (c.fact 39 (f := .meth "Net" "need_letter") rfl),
    c.def_ 33 (d := ds_Net_hosts_at) rfl,
    He.meth_ok (c.fact 40 (f := .meth "Net" "hosts_at") rfl),
    c.def_ 34 (d := ds_Net_door_of) rfl,
    He.meth_ok (c.fact 41 (f := .meth "Net" "door_of") rfl),
    c.def_ 35 (d := ds_Net_learn) rfl,
    He.meth_ok (c.fact 42 (f := .meth "Net" "learn") rfl),
    c.def_ 36 (d := ds_Net_doors_out) rfl,
    He.meth_ok (c.fact 43 (f := .meth "Net" "doors_out") rfl),
    c.def_ 37 (d := ds_Net_send) rfl,
    He.meth_ok (c.fact 44 (f := .meth "Net" "send") rfl),
    c.def_ 38 (d := ds_Net_move) rfl,
    He.meth_ok (c.fact 45 (f := .meth "Net" "move") rfl),
    c.def_ 39 (d := ds_Net_time) rfl,
    He.meth_ok (c.fact 46 (f := .meth "Net" "time") rfl),
    c.def_ 40 (d := ds_Net_places) rfl,
    He.meth_ok (c.fact 47 (f := .meth "Net" "places") rfl),
    c.def_ 41 (d := ds_Net_knows) rfl,
    He.meth_ok (c.fact 48 (f := .meth "Net" "knows") rfl),
    He.free_ok X G (c.fact 64 (f := .free "ValueError") rfl),
    He.free_ok X G (c.fact 65 (f := .free "int") rfl),
    He.free_ok X G (c.fact 66 (f := .free "len") rfl),
    He.free_ok X G (c.fact 67 (f := .free "list") rfl),
    He.free_ok X G (c.fact 68 (f := .free "max") rfl),
    He.free_ok X G (c.fact 69 (f := .free "min") rfl),
    He.free_ok X G (c.fact 70 (f := .free "range") rfl),
    He.free_ok X G (c.fact 71 (f := .free "set") rfl),
    He.free_ok X G (c.fact 72 (f := .free "sorted") rfl),
    He.free_ok X G (c.fact 73 (f := .free "tuple") rfl),
    He.int_ok X G (c.fact 56 (f := .int "MOST_BOXES" 6) rfl),
    He.int_ok X G (c.fact 57 (f := .int "DOORS" 4) rfl),
    He.int_ok X G (c.fact 58 (f := .int "MOST_LINKS" 10) rfl),
    He.int_ok X G (c.fact 59 (f := .int "MOST_AGE" 20) rfl),
    He.int_ok X G (c.fact 60 (f := .int "MOST_ROOM" 8) rfl),
    He.int_ok X G (c.fact 61 (f := .int "MOST_HOSTS" 8) rfl),
    He.int_ok X G (c.fact 62 (f := .int "MOST_TIME" 1000) rfl),
    He.int_ok X G (c.fact 63 (f := .int "MOST_STEPS" 60) rfl)⟩
end Dg
namespace Dg
open PySem PySem.Spec L2
local macro_rules | `(tactic| wtm_at "ne") => `(tactic| first | assumption | (apply Ne.symm; assumption) | (grind [ud, er]))
local macro_rules | `(tactic| wtm_at "lk") => `(tactic| first | (with_reducible assumption) | (with_reducible exact ud_same) | ((with_reducible refine (ud_ne (by wtm_at "ne")).trans ?_); wtm_at "lk"))
local macro_rules | `(tactic| wtm_at "gl") => `(tactic| first | (with_reducible assumption) | (with_reducible exact lst_ref (by wtm_at "lk")) | (with_reducible exact lstOf_new (by assumption) (by assumption)) | (with_unfolding_all exact rfl))
local macro_rules | `(tactic| wtm_at "vl") => `(tactic| first | (with_reducible exact val_ref (by wtm_at "lk")) | (with_unfolding_all exact rfl))
local macro_rules | `(tactic| wtm_at "dk") => `(tactic| with_reducible first | exact dK_own (by wtm_at "lk") | exact dK_lk (by wtm_at "lk") | exact dT_own (by wtm_at "lk"))
local macro_rules | `(tactic| wtm_at "pl") => `(tactic| with_unfolding_all first | exact rfl | exact all_int _ | exact all_P2 _ | assumption)
local macro_rules | `(tactic| wtm_at "nn") => `(tactic| first | omega | decide | (simp only [List.length_cons, List.length_nil, List.length_map, List.length_append]; omega) | grind)
local macro_rules | `(tactic| wtm_at "st") => `(tactic| (simp only [stD, List.map_cons, List.map_nil, List.length_cons, List.length_nil, List.replicate, Nat.reduceAdd, Nat.reduceSub, List.cons_append, List.nil_append]))
local macro_rules | `(tactic| wtm_at "1") => `(tactic| with_reducible first
  | refine w_seq ?_ | refine w_asgN ?_ | refine w_asgS ?_ | refine w_asgT ?_ | refine w_ret ?_ | refine w_drop ?_ | refine w_ifS ?_ | refine w_test ?_ | refine w_next ?_
  | refine w_nx ?_ | refine w_nx0 ?_ | refine w_rt ?_ | refine w_bk ?_ | refine w_ct ?_
  | refine w_bl2 ?_ | refine w_and ?_ | refine w_or ?_ | refine w_not ?_ | refine w_andV ?_ | refine w_orV ?_ | refine w_notV ?_ | refine w_if ?_
  | (apply w_var; (· with_unfolding_all rfl)) | refine w_c ?_ | refine w_op ?_ | refine w_chain ?_ | refine w_nil ?_ | refine w_cons ?_ | refine w_tup ?_ | refine w_lst ?_
  | (apply w_len; (· wtm_at "nn")) | refine w_call ?_ | refine w_cb ?_ | refine w_isN ?_ | refine w_notN ?_ | refine w_fz ?_
  | refine w_add ?_ | refine w_sub ?_ | refine w_lt ?_ | refine w_le ?_ | refine w_gt ?_ | refine w_ge ?_ | (apply w_mod; (· wtm_at "nn")) | (apply w_div; (· wtm_at "nn"); (· wtm_at "nn"))
  | (apply w_eq; (· with_unfolding_all rfl)) | (apply w_ne; (· with_unfolding_all rfl))
  | (apply w_ixT; (· with_unfolding_all rfl)) | (apply w_ixL; (· wtm_at "gl"); (· with_unfolding_all rfl))
  | refine w_lenT ?_ | (apply w_lenL; (· wtm_at "gl")) | refine w_min2 ?_ | refine w_max2 ?_ | refine w_intB ?_ | (apply w_tupleL; (· wtm_at "gl"))
  | refine w_bm ?_ | refine w_bm0 ?_ | (apply w_ty; (· wtm_at "gl"))
  | (apply w_setL; (· wtm_at "lk"); (· with_unfolding_all rfl)) | (apply w_append; (· wtm_at "lk"); (· wtm_at "nn")) | (apply w_extend; (· wtm_at "lk"); (· wtm_at "gl"); (· wtm_at "nn"))
  | refine w_hcons ?_ | refine w_hnil ?_ | refine w_hname ?_ | (apply w_htup; (· with_unfolding_all rfl)) | (apply w_exT; (· with_unfolding_all rfl))
  | refine w_lcR1 ?_ | refine w_lcL ?_ | refine w_lcT ?_ | refine w_forR1 ?_ | refine w_forR2 ?_ | refine w_forL ?_ | refine w_forT ?_ | refine w_yes ?_ | refine w_cnm ?_ | (apply w_ctp; (· with_unfolding_all rfl))
  | (apply w_exL; (· wtm_at "gl")) | refine w_exTu ?_ | (apply w_exI; (· wtm_at "nn")) | (apply w_exI2; (· wtm_at "nn")) | refine w_exII ?_
  | refine w_disp ?_ | refine w_pnil ?_ | refine w_pcons ?_ | (apply w_dispE; (· wtm_at "lk"); (· with_unfolding_all rfl); (· wtm_at "nn"))
  | refine w_dget ?_ | refine w_din ?_ | refine w_dget1 ?_ | refine w_dput ?_ | refine w_dpop1 ?_ | refine w_lenSet ?_ | refine w_listRng ?_ | refine w_notInRng ?_
  | (apply w_inK; (· wtm_at "dk"); (· with_unfolding_all rfl)) | (apply w_inT; (· wtm_at "dk"); (· with_unfolding_all rfl))
  | (apply w_isK; (· wtm_at "dk")) | (apply w_isT; (· wtm_at "dk"))
  | (apply w_putK; (· wtm_at "lk"); (· with_unfolding_all rfl); (· wtm_at "nn")) | (apply w_putT; (· wtm_at "lk"); (· with_unfolding_all rfl); (· wtm_at "nn")))
local macro_rules | `(tactic| wtm_at "bb") => `(tactic| (simp only [isN, Bool.not_true, Bool.not_false, Bool.or_true, Bool.true_or, Bool.or_false, Bool.false_or, Bool.xor_true, Bool.xor_false]; done))
local macro_rules | `(tactic| wtm_at "kt") => `(tactic| with_reducible first | exact kb_tu_tu | exact kb_tu_li | exact kb_tu_bo | exact kb_tu_st | exact kb_tu_in | exact kb_li_tu | exact kb_li_li | exact kb_li_bo | exact kb_li_st | exact kb_li_in | exact kb_No_tu | exact kb_No_li | exact kb_No_bo | exact kb_No_st | exact kb_No_in | exact kb_bo_tu | exact kb_bo_li | exact kb_bo_bo | exact kb_bo_st | exact kb_bo_in | exact kb_in_tu | exact kb_in_li | exact kb_in_bo | exact kb_in_st | exact kb_in_in | exact kb_st_tu | exact kb_st_li | exact kb_st_bo | exact kb_st_st | exact kb_st_in)
local macro_rules | `(tactic| wtm_at "ty") => `(tactic| first | assumption | exact ty_ref (by wtm_at "lk") | (with_unfolding_all exact rfl))
local macro_rules | `(tactic| wtm_at "x") => `(tactic| with_reducible first
  | (apply w_taken; (· wtm_at "lk"); (· wtm_at "nn"); (· wtm_at "nn")) | (apply w_eqD; (· wtm_at "vl"); (· wtm_at "vl"); (· wtm_at "pl"); (· wtm_at "pl")) | (apply w_neD; (· wtm_at "vl"); (· wtm_at "vl"); (· wtm_at "pl"); (· wtm_at "pl"))
  | (refine vR_frz (by assumption) ?_) | refine frz_let ?_ | refine w_isi ?_ | refine w_isi2 ?_ | (apply w_isiE; (· wtm_at "ty"); (· wtm_at "kt")) | (apply w_isiE2; (· wtm_at "ty"); (· wtm_at "kt"); (· wtm_at "kt"))
  | refine w_iteT rfl ?_ | refine w_iteF rfl ?_ | (apply w_iteT; (· wtm_at "bb")) | (apply w_iteF; (· wtm_at "bb")))
local macro_rules | `(tactic| wtm_at "w") => `(tactic| repeat (first | wtm_at "1" | wtm_at "x"))
/-- a list or a tuple -/
structure SqD (G : Gp) (T : String) (x : D) (ds : List D) : Prop where
  ty : tyN G x = some T
  nn : isN x = false
  rd : lstOf G x = some ds ∨ x = .tup ds
theorem SqD.len {G : Gp} {T : String} {x : D} {ds : List D} (h : SqD G T x ds) {Q : DK} (q : Q (.int (ds.length : Int)) G) : cLen [x] G Q := ⟨x, ds, rfl, h.rd, q⟩
theorem SqD.new {G : Gp} {T : String} {x : D} {ds : List D} (h : SqD G T x ds) {p : Addr} {o : GO} (hp : G p = none) : SqD (ud G p o) T x ds := by
  obtain ⟨h1, h2, h3⟩ := h
  refine ⟨?_, h2, ?_⟩
  · cases x with
    | ref q =>
      have hne : q ≠ p := fun z => by
        rw [z] at h1
        unfold tyN at h1
        dsimp only at h1
        rw [hp] at h1
        cases h1
      unfold tyN at h1 ⊢
      dsimp only at h1 ⊢
      rw [ud_ne hne]
      exact h1
    | _ => exact h1
  · rcases h3 with h3 | h3
    · exact .inl (lstOf_new h3 hp)
    · exact .inr h3
end Dg
namespace Dg
open PySem PySem.Spec L2 Hd
section
variable {P : Program} {w : World} {K : PySem.W.Frag} {mg : Str → Option Value} {base : Heap}
def N_L_taken : List Str := ["_law_row", "_law_many", "_law_found", "_law_cell"]
theorem sc_L_taken : FnScope N_L_taken ["_law_row", "_law_many"] (defScope sL_taken) := ⟨rfl, rfl, rfl, by decide +kernel, rfl, by decide +kernel, by decide +kernel⟩
theorem fn_L_taken (T : Tx K mg) : Fn P w K mg base "_law_taken" ["_law_row", "_law_many"] 1 (sp_L_taken K) := by
  obtain ⟨fd, F⟩ := T.d_L_taken
  refine ⟨_, fd, fn_ok F sc_L_taken len_L_taken (fun cdv A outer s H E hr => ?_) r_L_taken, T.g_L_taken, F.kp, F.bindsN fun _ _ _ _ _ _ us hl => match us, hl with | [_, _], _ => rfl⟩
  exact (qss_cons (qs_if (qt_cmp op_gt sr_gt (qe_ix ix_list sr_ixL (qv 0) qe_int) qe_int) (qss_cons (qs_set (i := 2) sc_L_taken.nd rfl (by first | exact Or.inl rfl | exact Or.inr rfl) (qe_op op_mod sr_mod (qe_ix ix_list sr_ixL (qv 0) qe_int) (qv 1)))
    (qss_cons (qs_asg (qe_op op_fdiv sr_div (qe_ix ix_list sr_ixL (qv 0) qe_int) (qv 1)) (qg_sub (qv 0) qe_int set_list ss_setL))
    (qss_one (qs_ret (qv 2))))) qss_nil)
    (qss_cons (qs_asg (qe_op op_add sr_add (qe_ix ix_list sr_ixL (qv 0) qe_int) qe_int) (qg_sub (qv 0) qe_int set_list ss_setL))
    (qss_cons (qs_if (qt_cmp op_gt sr_gt (qe_ix ix_list sr_ixL (qv 0) qe_int) (qe_callB call_len_seq sc_lenS rfl T.m_len (by decide +kernel) (qa_cons (qe_ix ix_list sr_ixL (qv 0) qe_int) qa_nil))) (qss_cons (qs_asg (qe_op op_mod sr_mod (qe_op op_add sr_add (qe_op op_mul sr_mul (qe_ix ix_list sr_ixL (qv 0) qe_int) qe_int) qe_int) qe_int) (qg_sub (qv 0) qe_int set_list ss_setL))
    (qss_one (qs_ret (qe_op op_mod sr_mod (qe_op op_fdiv sr_div (qe_ix ix_list sr_ixL (qv 0) qe_int) qe_int) (qv 1))))) qss_nil)
    (qss_cons (qs_set (i := 3) sc_L_taken.nd rfl (by first | exact Or.inl rfl | exact Or.inr rfl) (qe_ix ix_list sr_ixS (qe_ix ix_list sr_ixL (qv 0) qe_int) (qe_op op_sub sr_sub (qe_ix ix_list sr_ixL (qv 0) qe_int) qe_int)))
    (qss_cons (qs_asg (qe_op op_mod sr_mod (qe_op op_add sr_add (qe_op op_add sr_add (qe_op op_mul sr_mul (qe_ix ix_list sr_ixL (qv 0) qe_int) qe_int) (qv 3)) qe_int) qe_int) (qg_sub (qv 0) qe_int set_list ss_setL))
    (qss_cons (qs_if (qt_cmp op_ge sr_ge (qv 3) (qe_op op_pow sr_pow qe_int qe_int)) (qss_one (qs_asg (qe_op op_fdiv sr_div (qv 3) (qv 1)) (qg_sub (qv 0) qe_int set_list ss_setL))) qss_nil)
    (qss_one (qs_ret (qe_op op_mod sr_mod (qv 3) (qv 1))))))))))
def N_L_free : List Str := ["_law_used", "_law_box", "_law_door_here"]
theorem sc_L_free : FnScope N_L_free ["_law_used", "_law_box"] (defScope sL_free) := ⟨rfl, rfl, rfl, by decide +kernel, rfl, by decide +kernel, by decide +kernel⟩
theorem fn_L_free (T : Tx K mg) : Fn P w K mg base "_law_free" ["_law_used", "_law_box"] 1 (sp_L_free K) := by
  obtain ⟨fd, F⟩ := T.d_L_free
  refine ⟨_, fd, fn_ok F sc_L_free len_L_free (fun cdv A outer s H E hr => ?_) r_L_free, T.g_L_free, F.kp, F.bindsN fun _ _ _ _ _ _ us hl => match us, hl with | [_, _], _ => rfl⟩
  exact (qss_one (qs_ret (qe_lcR1 (own := [("_law_door_here", 2)]) rfl sc_L_free.nd rfl T.m_range (qa_cons qe_int qa_nil) (blkOk_by (N := N_L_free) (sc := defScope sL_free) (own := [("_law_door_here", 2)]) (by decide +kernel)) (c := (.nm 2)) (tt := (dTest (dOp (eInD true) (dTup (dCons (dVar 1) (dCons (dVar 2) dNil))) (dVar 0)))) (fun _ _ _ _ _ => pg_name (i := 2) sc_L_free.nd rfl (by first | exact Or.inl rfl | exact Or.inr rfl)) (fun _ _ _ _ _ => pts_one (qt_cmp (op_notInD (hu65 hr)) sr_notInD (qe_tup (qa_cons (qv 1) (qa_cons (qv 2) qa_nil))) (qv 0))) tt_id (fun _ _ _ _ _ => (qv 2)) (by decide))))
def N_L_link : List Str := ["_law_row", "_law_used", "_law_one", "_law_other", "_law_door_here", "_law_its_door"]
theorem sc_L_link : FnScope N_L_link ["_law_row", "_law_used", "_law_one", "_law_other"] (defScope sL_link) := ⟨rfl, rfl, rfl, by decide +kernel, rfl, by decide +kernel, by decide +kernel⟩
theorem fn_L_link (T : Tx K mg) (h_L_free : Fn P w K mg base "_law_free" ["_law_used", "_law_box"] 1 (sp_L_free K)) (h_L_taken : Fn P w K mg base "_law_taken" ["_law_row", "_law_many"] 1 (sp_L_taken K)) : Fn P w K mg base "_law_link" ["_law_row", "_law_used", "_law_one", "_law_other"] 2 (sp_L_link K) := by
  obtain ⟨fd, F⟩ := T.d_L_link
  refine ⟨_, fd, fn_ok F sc_L_link len_L_link (fun cdv A outer s H E hr => ?_) r_L_link, T.g_L_link, F.kp, F.bindsN fun _ _ _ _ _ _ us hl => match us, hl with | [_, _, _, _], _ => rfl⟩
  exact (qss_cons (qs_if (qt_w (qw_or (qt_cmp (op_eqD hr.units) sr_eqD (qe_fn h_L_free hr (by decide) rfl (qa_cons (qv 1) (qa_cons (qv 2) qa_nil))) (qe_fz (qe_lst qa_nil))) (qw_or1 (qt_cmp (op_eqD hr.units) sr_eqD (qe_fn h_L_free hr (by decide) rfl (qa_cons (qv 1) (qa_cons (qv 3) qa_nil))) (qe_fz (qe_lst qa_nil)))))) (qss_one (qs_ret qe_non)) qss_nil)
    (qss_cons (qs_set (i := 4) sc_L_link.nd rfl (by first | exact Or.inl rfl | exact Or.inr rfl) (qe_ix ix_list sr_ixL (qe_fn h_L_free hr (by decide) rfl (qa_cons (qv 1) (qa_cons (qv 2) qa_nil))) (qe_fn h_L_taken hr (by decide) rfl (qa_cons (qv 0) (qa_cons (qe_callB call_len_seq sc_len rfl T.m_len (by decide +kernel) (qa_cons (qe_fn h_L_free hr (by decide) rfl (qa_cons (qv 1) (qa_cons (qv 2) qa_nil))) qa_nil)) qa_nil)))))
    (qss_cons (qs_set (i := 5) sc_L_link.nd rfl (by first | exact Or.inl rfl | exact Or.inr rfl) (qe_ix ix_list sr_ixL (qe_fn h_L_free hr (by decide) rfl (qa_cons (qv 1) (qa_cons (qv 3) qa_nil))) (qe_fn h_L_taken hr (by decide) rfl (qa_cons (qv 0) (qa_cons (qe_callB call_len_seq sc_len rfl T.m_len (by decide +kernel) (qa_cons (qe_fn h_L_free hr (by decide) rfl (qa_cons (qv 1) (qa_cons (qv 3) qa_nil))) qa_nil)) qa_nil)))))
    (qss_cons (qs_expr (qe_bm PySem.F.plainAttrs_list PySem.F.slot_list_extend PySem.F.type_list_extend mt_extend sm_extend (qv 1) (qa_cons (qe_fz (qe_lst (qa_cons (qe_tup (qa_cons (qv 2) (qa_cons (qv 4) qa_nil))) (qa_cons (qe_tup (qa_cons (qv 3) (qa_cons (qv 5) qa_nil))) qa_nil)))) qa_nil)))
    (qss_one (qs_ret (qe_ix ix_list sr_ixL (qe_fz (qe_lst (qa_cons (qe_tup (qa_cons (qv 2) (qa_cons (qv 4) (qa_cons (qv 3) (qa_cons (qv 5) qa_nil))))) (qa_cons (qe_tup (qa_cons (qv 3) (qa_cons (qv 5) (qa_cons (qv 2) (qa_cons (qv 4) qa_nil))))) qa_nil)))) (qe_fn h_L_taken hr (by decide) rfl (qa_cons (qv 0) (qa_cons qe_int qa_nil))))))))))
def N_L_web : List Str := ["_law_row", "_law_rings", "_law_boxes", "_law_used", "_law_some", "_law_box", "_law_k", "_law_one", "_law_links", "_law_link_here"]
theorem sc_L_web : FnScope N_L_web ["_law_row", "_law_rings"] (defScope sL_web) := ⟨rfl, rfl, rfl, by decide +kernel, rfl, by decide +kernel, by decide +kernel⟩
theorem fn_L_web (T : Tx K mg) (h_L_taken : Fn P w K mg base "_law_taken" ["_law_row", "_law_many"] 1 (sp_L_taken K)) (h_L_link : Fn P w K mg base "_law_link" ["_law_row", "_law_used", "_law_one", "_law_other"] 2 (sp_L_link K)) : Fn P w K mg base "_law_web" ["_law_row", "_law_rings"] 3 (sp_L_web K) := by
  obtain ⟨fd, F⟩ := T.d_L_web
  refine ⟨_, fd, fn_ok F sc_L_web len_L_web (fun cdv A outer s H E hr => ?_) r_L_web, T.g_L_web, F.kp, F.bindsN fun _ _ _ _ _ _ us hl => match us, hl with | [_, _], _ => rfl⟩
  exact (qss_cons (qs_set (i := 2) sc_L_web.nd rfl (by first | exact Or.inl rfl | exact Or.inr rfl) (qe_op op_add sr_add qe_int (qe_fn h_L_taken hr (by decide) rfl (qa_cons (qv 0) (qa_cons qe_int qa_nil)))))
    (qss_cons (qs_set (i := 3) sc_L_web.nd rfl (by first | exact Or.inl rfl | exact Or.inr rfl) (qe_lst (qa_cons (qe_tup (qa_cons (qe_op op_sub sr_sub (qv 2) qe_int) (qa_cons qe_int qa_nil))) qa_nil)))
    (qss_cons (qs_set (i := 4) sc_L_web.nd rfl (by first | exact Or.inl rfl | exact Or.inr rfl) (qe_lst qa_nil))
    (qss_cons (qs_forR2 PassesOwn.never rfl rfl T.m_range (qa_cons qe_int (qa_cons (qv 2) qa_nil)) (qg_name (i := 5) sc_L_web.nd rfl (by first | exact Or.inl rfl | exact Or.inr rfl)) (qss_one (qs_if (qt_cmp op_lt sr_lt (qe_fn h_L_taken hr (by decide) rfl (qa_cons (qv 0) (qa_cons qe_int qa_nil))) qe_int) (qss_one (qs_expr (qe_bm PySem.F.plainAttrs_list PySem.F.slot_list_append PySem.F.type_list_append mt_append sm_append (qv 4) (qa_cons (qe_fn h_L_link hr (by decide) rfl (qa_cons (qv 0) (qa_cons (qv 3) (qa_cons (qe_fn h_L_taken hr (by decide) rfl (qa_cons (qv 0) (qa_cons (qv 5) qa_nil))) (qa_cons (qv 5) qa_nil))))) qa_nil)))) qss_nil)))
    (qss_cons (qs_forR1 PassesOwn.never rfl rfl T.m_range (qa_cons (qe_op op_mul sr_mul (qe_fn h_L_taken hr (by decide) rfl (qa_cons (qv 0) (qa_cons (qe_op op_add sr_add (qv 1) qe_int) qa_nil))) (qe_callTy call_int1 sc_int rfl T.m_int (by decide +kernel) (qa_cons (qe_cmp op_gt sr_gt (qv 2) qe_int) qa_nil))) qa_nil) (qg_name (i := 6) sc_L_web.nd rfl (by first | exact Or.inl rfl | exact Or.inr rfl)) (qss_cons (qs_set (i := 7) sc_L_web.nd rfl (by first | exact Or.inl rfl | exact Or.inr rfl) (qe_fn h_L_taken hr (by decide) rfl (qa_cons (qv 0) (qa_cons (qv 2) qa_nil))))
    (qss_one (qs_expr (qe_bm PySem.F.plainAttrs_list PySem.F.slot_list_append PySem.F.type_list_append mt_append sm_append (qv 4) (qa_cons (qe_fn h_L_link hr (by decide) rfl (qa_cons (qv 0) (qa_cons (qv 3) (qa_cons (qv 7) (qa_cons (qe_op op_mod sr_mod (qe_op op_add sr_add (qe_op op_add sr_add (qv 7) qe_int) (qe_fn h_L_taken hr (by decide) rfl (qa_cons (qv 0) (qa_cons (qe_op op_sub sr_sub (qv 2) qe_int) qa_nil)))) (qv 2)) qa_nil))))) qa_nil))))))
    (qss_cons (qs_set (i := 8) sc_L_web.nd rfl (by first | exact Or.inl rfl | exact Or.inr rfl) (qe_lst qa_nil))
    (qss_cons (qs_forL PassesOwn.never rfl (qv 4) (qg_name (i := 9) sc_L_web.nd rfl (by first | exact Or.inl rfl | exact Or.inr rfl)) (qss_one (qs_if (qt_w (qw_and (qt_notN (qv 9)) (qw_and1 (qt_cmp op_lt sr_lt (qe_callB call_len_seq sc_len rfl T.m_len (by decide +kernel) (qa_cons (qv 8) qa_nil)) qe_int)))) (qss_one (qs_expr (qe_bm PySem.F.plainAttrs_list PySem.F.slot_list_insert PySem.F.type_list_insert mt_insert sm_insert (qv 8) (qa_cons (qe_fn h_L_taken hr (by decide) rfl (qa_cons (qv 0) (qa_cons (qe_op op_add sr_add (qe_callB call_len_seq sc_len rfl T.m_len (by decide +kernel) (qa_cons (qv 8) qa_nil)) qe_int) qa_nil))) (qa_cons (qv 9) qa_nil))))) qss_nil)))
    (qss_one (qs_ret (qe_tup (qa_cons (qv 2) (qa_cons (qe_callTy call_tuple_of sc_tuple rfl T.m_tuple (by decide +kernel) (qa_cons (qv 8) qa_nil)) qa_nil))))))))))))
def N_L_ends : List Str := ["_law_web_here", "_law_found", "_law_one", "_law_door_here", "_law_other", "_law_its_door"]
theorem sc_L_ends : FnScope N_L_ends ["_law_web_here"] (defScope sL_ends) := ⟨rfl, rfl, rfl, by decide +kernel, rfl, by decide +kernel, by decide +kernel⟩
theorem fn_L_ends (T : Tx K mg) : Fn P w K mg base "_law_ends" ["_law_web_here"] 1 (sp_L_ends K) := by
  obtain ⟨fd, F⟩ := T.d_L_ends
  refine ⟨_, fd, fn_ok F sc_L_ends len_L_ends (fun cdv A outer s H E hr => ?_) r_L_ends, T.g_L_ends, F.kp, F.bindsN fun _ _ _ _ _ _ us hl => match us, hl with | [_], _ => rfl⟩
  exact (qss_cons (qs_set (i := 1) sc_L_ends.nd rfl (by first | exact Or.inl rfl | exact Or.inr rfl) qe_newT)
    (qss_cons (qs_forT PassesOwn.never rfl (qe_ix ix_tup sr_ixT (qv 0) qe_int) (qg_tup rfl (qgs_cons (qg_name (i := 2) sc_L_ends.nd rfl (by first | exact Or.inl rfl | exact Or.inr rfl)) (qgs_cons (qg_name (i := 3) sc_L_ends.nd rfl (by first | exact Or.inl rfl | exact Or.inr rfl)) (qgs_cons (qg_name (i := 4) sc_L_ends.nd rfl (by first | exact Or.inl rfl | exact Or.inr rfl)) (qgs_cons (qg_name (i := 5) sc_L_ends.nd rfl (by first | exact Or.inl rfl | exact Or.inr rfl)) qgs_nil))))) (qss_cons (qs_dput (hu_room hr) (qv 1) (qe_tup (qa_cons (qv 2) (qa_cons (qv 3) qa_nil))) (qe_tup (qa_cons (qv 4) (qa_cons (qv 5) qa_nil))))
    (qss_one (qs_dput (hu_room hr) (qv 1) (qe_tup (qa_cons (qv 4) (qa_cons (qv 5) qa_nil))) (qe_tup (qa_cons (qv 2) (qa_cons (qv 3) qa_nil)))))))
    (qss_one (qs_ret (qv 1)))))
def N_L_places : List Str := ["_law_web_here", "_law_ends_here", "_law_found", "_law_box", "_law_door_here"]
theorem sc_L_places : FnScope N_L_places ["_law_web_here"] (defScope sL_places) := ⟨rfl, rfl, rfl, by decide +kernel, rfl, by decide +kernel, by decide +kernel⟩
theorem fn_L_places (T : Tx K mg) (h_L_ends : Fn P w K mg base "_law_ends" ["_law_web_here"] 1 (sp_L_ends K)) : Fn P w K mg base "_law_places" ["_law_web_here"] 2 (sp_L_places K) := by
  obtain ⟨fd, F⟩ := T.d_L_places
  refine ⟨_, fd, fn_ok F sc_L_places len_L_places (fun cdv A outer s H E hr => ?_) r_L_places, T.g_L_places, F.kp, F.bindsN fun _ _ _ _ _ _ us hl => match us, hl with | [_], _ => rfl⟩
  exact (qss_cons (qs_set (i := 1) sc_L_places.nd rfl (by first | exact Or.inl rfl | exact Or.inr rfl) (qe_fn h_L_ends hr (by decide) rfl (qa_cons (qv 0) qa_nil)))
    (qss_cons (qs_set (i := 2) sc_L_places.nd rfl (by first | exact Or.inl rfl | exact Or.inr rfl) (qe_lst qa_nil))
    (qss_cons (qs_forR1 PassesOwn.never rfl rfl T.m_range (qa_cons (qe_ix ix_tup sr_ixT (qv 0) qe_int) qa_nil) (qg_name (i := 3) sc_L_places.nd rfl (by first | exact Or.inl rfl | exact Or.inr rfl)) (qss_one (qs_expr (qe_bm PySem.F.plainAttrs_list PySem.F.slot_list_extend PySem.F.type_list_extend mt_extend sm_extend (qv 2) (qa_cons (qe_fz (qe_lcR1 (own := [("_law_door_here", 4)]) rfl sc_L_places.nd rfl T.m_range (qa_cons qe_int qa_nil) (blkOk_by (N := N_L_places) (sc := defScope sL_places) (own := [("_law_door_here", 4)]) (by decide +kernel)) (c := (.nm 4)) (tt := (dTest (dDIn true (dTup (dCons (dVar 3) (dCons (dVar 4) dNil))) (dVar 1)))) (fun _ _ _ _ _ => pg_name (i := 4) sc_L_places.nd rfl (by first | exact Or.inl rfl | exact Or.inr rfl)) (fun _ _ _ _ _ => pts_one (qt_dnotin (hu_room hr) (qe_tup (qa_cons (qv 3) (qa_cons (qv 4) qa_nil))) (qv 1))) tt_id (fun _ _ _ _ _ => (qe_tup (qa_cons (qv 3) (qa_cons (qv 4) qa_nil)))) (by decide))) qa_nil)))))
    (qss_one (qs_ret (qv 2))))))
def N_L_fresh : List Str := ["_law_row", "_law_web_here", "_law_some", "_law_spots", "_law_k", "_law_age", "_law_room", "_law_box"]
theorem sc_L_fresh : FnScope N_L_fresh ["_law_row", "_law_web_here"] (defScope sL_fresh) := ⟨rfl, rfl, rfl, by decide +kernel, rfl, by decide +kernel, by decide +kernel⟩
theorem fn_L_fresh (T : Tx K mg) (h_L_places : Fn P w K mg base "_law_places" ["_law_web_here"] 2 (sp_L_places K)) (h_L_taken : Fn P w K mg base "_law_taken" ["_law_row", "_law_many"] 1 (sp_L_taken K)) : Fn P w K mg base "_law_fresh" ["_law_row", "_law_web_here"] 3 (sp_L_fresh K) := by
  obtain ⟨fd, F⟩ := T.d_L_fresh
  refine ⟨_, fd, fn_ok F sc_L_fresh len_L_fresh (fun cdv A outer s H E hr => ?_) r_L_fresh, T.g_L_fresh, F.kp, F.bindsN fun _ _ _ _ _ _ us hl => match us, hl with | [_, _], _ => rfl⟩
  exact (qss_cons (qs_set (i := 2) sc_L_fresh.nd rfl (by first | exact Or.inl rfl | exact Or.inr rfl) (qe_fn h_L_places hr (by decide) rfl (qa_cons (qv 1) qa_nil)))
    (qss_cons (qs_setLcR1 (i := 3) (own := [("_law_k", 4)]) rfl sc_L_fresh.nd rfl rfl (sw_true rfl rfl rfl (by decide +kernel)) rfl T.m_range (qa_cons (qe_op op_add sr_add qe_int (qe_fn h_L_taken hr (by decide) rfl (qa_cons (qv 0) (qa_cons qe_int qa_nil)))) qa_nil) (blkOk_by (N := N_L_fresh) (sc := defScope sL_fresh) (own := [("_law_k", 4)]) (by decide +kernel)) (c := (.nm 4)) (tt := dYes) (fun _ _ _ _ _ => pg_name (i := 4) sc_L_fresh.nd rfl (by first | exact Or.inl rfl | exact Or.inr rfl)) (fun _ _ _ _ _ => pts_nil) tt_yes (fun _ _ _ _ _ => (qe_ix ix_list sr_ixL (qv 2) (qe_fn h_L_taken hr (by decide) rfl (qa_cons (qv 0) (qa_cons (qe_callB call_len_seq sc_len rfl T.m_len (by decide +kernel) (qa_cons (qv 2) qa_nil)) qa_nil))))) (by decide))
    (qss_cons (qs_set (i := 5) sc_L_fresh.nd rfl (by first | exact Or.inl rfl | exact Or.inr rfl) (qe_ix ix_list sr_ixL (qe_fz (qe_lst (qa_cons qe_int (qa_cons qe_int (qa_cons (qe_fn h_L_taken hr (by decide) rfl (qa_cons (qv 0) (qa_cons qe_int qa_nil))) qa_nil))))) (qe_fn h_L_taken hr (by decide) rfl (qa_cons (qv 0) (qa_cons qe_int qa_nil)))))
    (qss_cons (qs_set (i := 6) sc_L_fresh.nd rfl (by first | exact Or.inl rfl | exact Or.inr rfl) (qe_ix ix_list sr_ixL (qe_fz (qe_lst (qa_cons qe_int (qa_cons qe_int (qa_cons (qe_op op_add sr_add qe_int (qe_fn h_L_taken hr (by decide) rfl (qa_cons (qv 0) (qa_cons qe_int qa_nil)))) qa_nil))))) (qe_fn h_L_taken hr (by decide) rfl (qa_cons (qv 0) (qa_cons qe_int qa_nil)))))
    (qss_one (qs_ret (qe_disp (qps_cons qe_str (qv 1) (qps_cons qe_str (qv 5) (qps_cons qe_str (qv 6) (qps_cons qe_str (qv 3) (qps_cons qe_str (qe_lcR1 (own := [("_law_box", 7)]) rfl sc_L_fresh.nd rfl T.m_range (qa_cons (qe_ix ix_tup sr_ixT (qv 1) qe_int) qa_nil) (blkOk_by (N := N_L_fresh) (sc := defScope sL_fresh) (own := [("_law_box", 7)]) (by decide +kernel)) (c := (.nm 7)) (tt := dYes) (fun _ _ _ _ _ => pg_name (i := 7) sc_L_fresh.nd rfl (by first | exact Or.inl rfl | exact Or.inr rfl)) (fun _ _ _ _ _ => pts_nil) tt_yes (fun _ _ _ _ _ => (qe_fz (qe_lst qa_nil))) (by decide)) (qps_cons qe_str qe_int qps_nil)))))))))))))
def N_is_door : List Str := ["boxes", "box", "door"]
theorem sc_is_door : FnScope N_is_door ["boxes", "box", "door"] (defScope s_is_door) := ⟨rfl, rfl, rfl, by decide +kernel, rfl, by decide +kernel, by decide +kernel⟩
theorem fn_is_door (T : Tx K mg) : Fn P w K mg base "is_door" ["boxes", "box", "door"] 1 (sp_is_door K) := by
  obtain ⟨fd, F⟩ := T.d_is_door
  refine ⟨_, fd, fn_ok F sc_is_door len_is_door (fun cdv A outer s H E hr => ?_) r_is_door, T.g_is_door, F.kp, F.bindsN fun _ _ _ _ _ _ us hl => match us, hl with | [_, _, _], _ => rfl⟩
  exact (qss_one (qs_ret (qe_and (qe_chain op_le sr_le op_lt sr_lt qe_int (qv 1) (qv 0)) (qe_one (qe_chain op_le sr_le op_lt sr_lt qe_int (qv 2) (qe_gint rfl T.i_DOORS))))))
def N_need_web : List Str := ["web", "boxes", "links", "taken", "number", "one", "door", "other", "its_door", "ends", "good", "end"]
theorem sc_need_web : FnScope N_need_web ["web"] (defScope s_need_web) := ⟨rfl, rfl, rfl, by decide +kernel, rfl, by decide +kernel, by decide +kernel⟩
theorem fn_need_web (T : Tx K mg) (h_is_door : Fn P w K mg base "is_door" ["boxes", "box", "door"] 1 (sp_is_door K)) : Fn P w K mg base "need_web" ["web"] 2 (sp_need_web K) := by
  obtain ⟨fd, F⟩ := T.d_need_web
  refine ⟨_, fd, fn_ok F sc_need_web len_need_web (fun cdv A outer s H E hr => ?_) r_need_web, T.g_need_web, F.kp, F.bindsN fun _ _ _ _ _ _ us hl => match us, hl with | [_], _ => rfl⟩
  exact (qss_cons (qs_asg (qv 0) (qg_tup rfl (qgs_cons (qg_name (i := 1) sc_need_web.nd rfl (by first | exact Or.inl rfl | exact Or.inr rfl)) (qgs_cons (qg_name (i := 2) sc_need_web.nd rfl (by first | exact Or.inl rfl | exact Or.inr rfl)) qgs_nil))))
    (qss_cons (qs_if (qt_not (qt_chain op_le sr_le op_le sr_le qe_int (qv 1) (qe_gint rfl T.i_MOST_BOXES))) (qss_one qs_no) qss_nil)
    (qss_cons (qs_set (i := 3) sc_need_web.nd rfl (by first | exact Or.inl rfl | exact Or.inr rfl) (qe_lst qa_nil))
    (qss_one (qs_forR1 PassesOwn.never rfl rfl T.m_range (qa_cons (qe_callB call_len_seq sc_len rfl T.m_len (by decide +kernel) (qa_cons (qv 2) qa_nil)) qa_nil) (qg_name (i := 4) sc_need_web.nd rfl (by first | exact Or.inl rfl | exact Or.inr rfl)) (qss_cons (qs_asg (qe_ix ix_tup sr_ixT (qv 2) (qv 4)) (qg_tup rfl (qgs_cons (qg_name (i := 5) sc_need_web.nd rfl (by first | exact Or.inl rfl | exact Or.inr rfl)) (qgs_cons (qg_name (i := 6) sc_need_web.nd rfl (by first | exact Or.inl rfl | exact Or.inr rfl)) (qgs_cons (qg_name (i := 7) sc_need_web.nd rfl (by first | exact Or.inl rfl | exact Or.inr rfl)) (qgs_cons (qg_name (i := 8) sc_need_web.nd rfl (by first | exact Or.inl rfl | exact Or.inr rfl)) qgs_nil))))))
    (qss_cons (qs_set (i := 9) sc_need_web.nd rfl (by first | exact Or.inl rfl | exact Or.inr rfl) (qe_lst (qa_cons (qe_tup (qa_cons (qv 5) (qa_cons (qv 6) qa_nil))) (qa_cons (qe_tup (qa_cons (qv 7) (qa_cons (qv 8) qa_nil))) qa_nil))))
    (qss_cons (qs_set (i := 10) sc_need_web.nd rfl (by first | exact Or.inl rfl | exact Or.inr rfl) (qe_and (qe_cmp op_lt sr_lt (qv 4) (qe_gint rfl T.i_MOST_LINKS)) (qe_and (qe_cmp op_ne sr_ne (qv 5) (qv 7)) (qe_and (qe_fn h_is_door hr (by decide) rfl (qa_cons (qv 1) (qa_cons (qv 5) (qa_cons (qv 6) qa_nil)))) (qe_one (qe_fn h_is_door hr (by decide) rfl (qa_cons (qv 1) (qa_cons (qv 7) (qa_cons (qv 8) qa_nil)))))))))
    (qss_cons (qs_if (qt_w (qw_or (qt_not (qt_val (qv 10))) (qw_or1 (qt_cmp (op_neD hr.units) sr_neD (qe_fz (qe_lcL (own := [("end", 11)]) rfl sc_need_web.nd (qv 9) (blkOk_by (N := N_need_web) (sc := defScope s_need_web) (own := [("end", 11)]) (by decide +kernel)) (c := (.nm 11)) (tt := (dTest (dOp (eInD false) (dVar 11) (dVar 3)))) (fun _ _ _ _ _ => pg_name (i := 11) sc_need_web.nd rfl (by first | exact Or.inl rfl | exact Or.inr rfl)) (fun _ _ _ _ _ => pts_one (qt_cmp (op_inD (hu65 hr)) sr_inD (qv 11) (qv 3))) tt_id (fun _ _ _ _ _ => (qv 11)) (by decide))) (qe_fz (qe_lst qa_nil)))))) (qss_one qs_no) qss_nil)
    (qss_one (qs_expr (qe_bm PySem.F.plainAttrs_list PySem.F.slot_list_extend PySem.F.type_list_extend mt_extend sm_extend (qv 3) (qa_cons (qv 9) qa_nil)))))))))))))
def N_N_need_place : List Str := ["self", "host", "place"]
theorem sc_N_need_place : FnScope N_N_need_place ["self", "host", "place"] (defScope s_Net_need_place) := ⟨rfl, rfl, rfl, by decide +kernel, rfl, by decide +kernel, by decide +kernel⟩
theorem fn_N_need_place (T : Tx K mg) (h_is_door : Fn P w K mg base "is_door" ["boxes", "box", "door"] 1 (sp_is_door K)) : Mt P w K mg base (cN K) "need_place" ["self", "host", "place"] 2 (sp_N_need_place K) := by
  obtain ⟨fd, F⟩ := T.d_N_need_place
  refine ⟨⟨_, fd, fn_ok F sc_N_need_place len_N_need_place (fun cdv A outer s H E hr => ?_) r_N_need_place, T.cls, T.e_N_need_place, F.bindsN fun _ _ _ _ _ _ us hl => match us, hl with | [_, _, _], _ => rfl⟩⟩
  exact (qss_one (qs_if (qt_w (qw_or (qt_not (qt_val (qe_fn h_is_door hr (by decide) rfl (qa_cons (qe_ix ix_tup sr_ixT (qe_fld T.cls T.n_web (qv 0)) qe_int) (qa_cons (qe_ix ix_tup sr_ixT (qv 2) qe_int) (qa_cons (qe_ix ix_tup sr_ixT (qv 2) qe_int) qa_nil)))))) (qw_or1 (qt_din (hu_room hr) (qv 2) (qe_fld T.cls T.n_ends (qv 0)))))) (qss_one qs_no) qss_nil))
def N_N_init : List Str := ["self", "web", "age", "room", "places", "one", "door", "other", "its_door", "number", "box"]
theorem sc_N_init : FnScope N_N_init ["self", "web", "age", "room", "places"] (defScope s_Net___init__) := ⟨rfl, rfl, rfl, by decide +kernel, rfl, by decide +kernel, by decide +kernel⟩
theorem fn_N_init (T : Tx K mg) (h_need_web : Fn P w K mg base "need_web" ["web"] 2 (sp_need_web K)) (h_N_need_place : Mt P w K mg base (cN K) "need_place" ["self", "host", "place"] 2 (sp_N_need_place K)) : Mkr P w K mg base "Net" (cN K) ["self", "web", "age", "room", "places"] 3 (sp_N_init K) := by
  obtain ⟨fd, F⟩ := T.d_N_init
  refine ⟨⟨_, fd, fn_ok F sc_N_init len_N_init (fun cdv A outer s H E hr => ?_) r_N_init, T.mkN, T.g_Net, F.bindsN fun _ _ _ _ _ _ us hl => match us, hl with | [_, _, _, _, _], _ => rfl⟩⟩
  exact (qss_cons (qs_expr (qe_fn h_need_web hr (by decide) rfl (qa_cons (qv 1) qa_nil)))
    (qss_cons (qs_if (qt_w (qw_or (qt_not (qt_chain op_le sr_le op_le sr_le qe_int (qv 2) (qe_gint rfl T.i_MOST_AGE))) (qw_or (qt_not (qt_chain op_le sr_le op_le sr_le qe_int (qv 3) (qe_gint rfl T.i_MOST_ROOM))) (qw_or1 (qt_not (qt_chain op_le sr_le op_le sr_le qe_int (qe_callB call_len_seq sc_len rfl T.m_len (by decide +kernel) (qa_cons (qv 4) qa_nil)) (qe_gint rfl T.i_MOST_HOSTS))))))) (qss_one qs_no) qss_nil)
    (qss_cons (qs_fld T.cls T.n_web (qv 0) (qv 1))
    (qss_cons (qs_fld T.cls T.n_age (qv 0) (qv 2))
    (qss_cons (qs_fld T.cls T.n_room (qv 0) (qv 3))
    (qss_cons (qs_fld T.cls T.n_ends (qv 0) qe_newT)
    (qss_cons (qs_forT PassesOwn.never rfl (qe_ix ix_tup sr_ixT (qv 1) qe_int) (qg_tup rfl (qgs_cons (qg_name (i := 5) sc_N_init.nd rfl (by first | exact Or.inl rfl | exact Or.inr rfl)) (qgs_cons (qg_name (i := 6) sc_N_init.nd rfl (by first | exact Or.inl rfl | exact Or.inr rfl)) (qgs_cons (qg_name (i := 7) sc_N_init.nd rfl (by first | exact Or.inl rfl | exact Or.inr rfl)) (qgs_cons (qg_name (i := 8) sc_N_init.nd rfl (by first | exact Or.inl rfl | exact Or.inr rfl)) qgs_nil))))) (qss_cons (qs_dput (hu_room hr) (qe_fld T.cls T.n_ends (qv 0)) (qe_tup (qa_cons (qv 5) (qa_cons (qv 6) qa_nil))) (qe_tup (qa_cons (qv 7) (qa_cons (qv 8) qa_nil))))
    (qss_one (qs_dput (hu_room hr) (qe_fld T.cls T.n_ends (qv 0)) (qe_tup (qa_cons (qv 7) (qa_cons (qv 8) qa_nil))) (qe_tup (qa_cons (qv 5) (qa_cons (qv 6) qa_nil)))))))
    (qss_cons (qs_forR1 PassesOwn.never rfl rfl T.m_range (qa_cons (qe_callB call_len_seq sc_len rfl T.m_len (by decide +kernel) (qa_cons (qv 4) qa_nil)) qa_nil) (qg_name (i := 9) sc_N_init.nd rfl (by first | exact Or.inl rfl | exact Or.inr rfl)) (qss_one (qs_expr (qe_meth h_N_need_place hr (by decide) (qv 0) (qa_cons (qv 9) (qa_cons (qe_ix ix_list sr_ixL (qv 4) (qv 9)) qa_nil))))))
    (qss_cons (qs_fld T.cls T.n_spots (qv 0) (qe_callTy call_list_of sc_list rfl T.m_list (by decide +kernel) (qa_cons (qv 4) qa_nil)))
    (qss_cons (qs_fld T.cls T.n_known (qv 0) (qe_lcR1 (own := [("box", 10)]) rfl sc_N_init.nd rfl T.m_range (qa_cons (qe_ix ix_tup sr_ixT (qv 1) qe_int) qa_nil) (blkOk_by (N := N_N_init) (sc := defScope s_Net___init__) (own := [("box", 10)]) (by decide +kernel)) (c := (.nm 10)) (tt := dYes) (fun _ _ _ _ _ => pg_name (i := 10) sc_N_init.nd rfl (by first | exact Or.inl rfl | exact Or.inr rfl)) (fun _ _ _ _ _ => pts_nil) tt_yes (fun _ _ _ _ _ => qe_newK) (by decide)))
    (qss_one (qs_fld T.cls T.n_now (qv 0) qe_int))))))))))))
def N_L_net : List Str := ["_law_n"]
theorem sc_L_net : FnScope N_L_net ["_law_n"] (defScope sL_net) := ⟨rfl, rfl, rfl, by decide +kernel, rfl, by decide +kernel, by decide +kernel⟩
theorem fn_L_net (T : Tx K mg) (h_N_init : Mkr P w K mg base "Net" (cN K) ["self", "web", "age", "room", "places"] 3 (sp_N_init K)) : Fn P w K mg base "_law_net" ["_law_n"] 5 (sp_L_net K) := by
  obtain ⟨fd, F⟩ := T.d_L_net
  refine ⟨_, fd, fn_ok F sc_L_net len_L_net (fun cdv A outer s H E hr => ?_) r_L_net, T.g_L_net, F.kp, F.bindsN fun _ _ _ _ _ _ us hl => match us, hl with | [_], _ => rfl⟩
  exact (qss_one (qs_ret (qe_make h_N_init hr (by decide) rfl (qa_cons (qe_dget (hu_room hr) (qv 0) qe_str) (qa_cons (qe_dget (hu_room hr) (qv 0) qe_str) (qa_cons (qe_dget (hu_room hr) (qv 0) qe_str) (qa_cons (qe_fz (qe_callTy call_list_of sc_list rfl T.m_list (by decide +kernel) (qa_cons (qe_dget (hu_room hr) (qv 0) qe_str) qa_nil))) qa_nil)))))))
def N_L_joined : List Str := ["_law_web_here", "_law_closed", "_law_found", "_law_box", "_law_turn", "_law_one", "_law_door_here", "_law_other", "_law_its_door", "_law_both"]
theorem sc_L_joined : FnScope N_L_joined ["_law_web_here", "_law_closed"] (defScope sL_joined) := ⟨rfl, rfl, rfl, by decide +kernel, rfl, by decide +kernel, by decide +kernel⟩
theorem fn_L_joined (T : Tx K mg) : Fn P w K mg base "_law_joined" ["_law_web_here", "_law_closed"] 1 (sp_L_joined K) := by
  obtain ⟨fd, F⟩ := T.d_L_joined
  refine ⟨_, fd, fn_ok F sc_L_joined len_L_joined (fun cdv A outer s H E hr => ?_) r_L_joined, T.g_L_joined, F.kp, F.bindsN fun _ _ _ _ _ _ us hl => match us, hl with | [_, _], _ => rfl⟩
  exact (qss_cons (qs_setLcR1 (i := 2) (own := [("_law_box", 3)]) rfl sc_L_joined.nd rfl rfl (sw_true rfl rfl rfl (by decide +kernel)) rfl T.m_range (qa_cons (qe_ix ix_tup sr_ixT (qv 0) qe_int) qa_nil) (blkOk_by (N := N_L_joined) (sc := defScope sL_joined) (own := [("_law_box", 3)]) (by decide +kernel)) (c := (.nm 3)) (tt := dYes) (fun _ _ _ _ _ => pg_name (i := 3) sc_L_joined.nd rfl (by first | exact Or.inl rfl | exact Or.inr rfl)) (fun _ _ _ _ _ => pts_nil) tt_yes (fun _ _ _ _ _ => (qe_fz (qe_lst (qa_cons (qv 3) qa_nil)))) (by decide))
    (qss_cons (qs_forR1 PassesOwn.never rfl rfl T.m_range (qa_cons (qe_ix ix_tup sr_ixT (qv 0) qe_int) qa_nil) (qg_name (i := 4) sc_L_joined.nd rfl (by first | exact Or.inl rfl | exact Or.inr rfl)) (qss_one (qs_forT PassesOwn.never rfl (qe_ix ix_tup sr_ixT (qv 0) qe_int) (qg_tup rfl (qgs_cons (qg_name (i := 5) sc_L_joined.nd rfl (by first | exact Or.inl rfl | exact Or.inr rfl)) (qgs_cons (qg_name (i := 6) sc_L_joined.nd rfl (by first | exact Or.inl rfl | exact Or.inr rfl)) (qgs_cons (qg_name (i := 7) sc_L_joined.nd rfl (by first | exact Or.inl rfl | exact Or.inr rfl)) (qgs_cons (qg_name (i := 8) sc_L_joined.nd rfl (by first | exact Or.inl rfl | exact Or.inr rfl)) qgs_nil))))) (qss_one (qs_if (qt_cmp op_notIn_seq sr_inF (qv 1) (qe_tup (qa_cons (qv 5) (qa_cons (qv 7) qa_nil)))) (qss_cons (qs_set (i := 9) sc_L_joined.nd rfl (by first | exact Or.inl rfl | exact Or.inr rfl) (qe_fz (qe_sortSet rfl rfl T.m_sorted rfl T.m_set (qe_fz (qe_op op_cat sr_cat (qe_ix ix_list sr_ixL (qv 2) (qv 5)) (qe_ix ix_list sr_ixL (qv 2) (qv 7)))))))
    (qss_one (qs_forL PassesOwn.never rfl (qv 9) (qg_name (i := 3) sc_L_joined.nd rfl (by first | exact Or.inl rfl | exact Or.inr rfl)) (qss_one (qs_asg (qv 9) (qg_sub (qv 2) (qv 3) set_list ss_setL)))))) qss_nil)))))
    (qss_one (qs_ret (qv 2)))))
def N_L_deed : List Str := ["_law_row", "_law_n", "_law_hosts", "_law_time", "_law_host", "_law_some"]
theorem sc_L_deed : FnScope N_L_deed ["_law_row", "_law_n"] (defScope sL_deed) := ⟨rfl, rfl, rfl, by decide +kernel, rfl, by decide +kernel, by decide +kernel⟩
theorem fn_L_deed (T : Tx K mg) (h_L_taken : Fn P w K mg base "_law_taken" ["_law_row", "_law_many"] 1 (sp_L_taken K)) (h_L_places : Fn P w K mg base "_law_places" ["_law_web_here"] 2 (sp_L_places K)) : Fn P w K mg base "_law_deed" ["_law_row", "_law_n"] 3 (sp_L_deed K) := by
  obtain ⟨fd, F⟩ := T.d_L_deed
  refine ⟨_, fd, fn_ok F sc_L_deed len_L_deed (fun cdv A outer s H E hr => ?_) r_L_deed, T.g_L_deed, F.kp, F.bindsN fun _ _ _ _ _ _ us hl => match us, hl with | [_, _], _ => rfl⟩
  exact (qss_cons (qs_set (i := 2) sc_L_deed.nd rfl (by first | exact Or.inl rfl | exact Or.inr rfl) (qe_callB call_len_seq sc_len rfl T.m_len (by decide +kernel) (qa_cons (qe_dget (hu_room hr) (qv 1) qe_str) qa_nil)))
    (qss_cons (qs_set (i := 3) sc_L_deed.nd rfl (by first | exact Or.inl rfl | exact Or.inr rfl) (qe_callB (call_min2 rfl) sc_min2 rfl T.m_min (by decide +kernel) (qa_cons qe_int (qa_cons (qe_op op_add sr_add (qe_dget (hu_room hr) (qv 1) qe_str) (qe_ix ix_list sr_ixL (qe_fz (qe_lst (qa_cons qe_int (qa_cons qe_int (qa_cons (qe_fn h_L_taken hr (by decide) rfl (qa_cons (qv 0) (qa_cons qe_int qa_nil))) (qa_cons (qe_fn h_L_taken hr (by decide) rfl (qa_cons (qv 0) (qa_cons qe_int qa_nil))) qa_nil)))))) (qe_fn h_L_taken hr (by decide) rfl (qa_cons (qv 0) (qa_cons qe_int qa_nil))))) qa_nil))))
    (qss_cons (qs_if (qt_cmp op_eq sr_eq (qe_fn h_L_taken hr (by decide) rfl (qa_cons (qv 0) (qa_cons qe_int qa_nil))) qe_int) (qss_one (qs_set (i := 3) sc_L_deed.nd rfl (by first | exact Or.inl rfl | exact Or.inr rfl) (qe_op op_add sr_add (qe_dget (hu_room hr) (qv 1) qe_str) (qe_fn h_L_taken hr (by decide) rfl (qa_cons (qv 0) (qa_cons (qe_op op_sub sr_sub qe_int (qe_dget (hu_room hr) (qv 1) qe_str)) qa_nil)))))) qss_nil)
    (qss_cons (qs_set (i := 4) sc_L_deed.nd rfl (by first | exact Or.inl rfl | exact Or.inr rfl) (qe_fn h_L_taken hr (by decide) rfl (qa_cons (qv 0) (qa_cons (qv 2) qa_nil))))
    (qss_cons (qs_set (i := 5) sc_L_deed.nd rfl (by first | exact Or.inl rfl | exact Or.inr rfl) (qe_fn h_L_places hr (by decide) rfl (qa_cons (qe_dget (hu_room hr) (qv 1) qe_str) qa_nil)))
    (qss_cons (qs_if (qt_cmp op_eq sr_eq (qe_fn h_L_taken hr (by decide) rfl (qa_cons (qv 0) (qa_cons qe_int qa_nil))) qe_int) (qss_one (qs_ret (qe_tup (qa_cons qe_str (qa_cons (qv 3) (qa_cons (qv 4) (qa_cons (qe_ix ix_list sr_ixL (qv 5) (qe_fn h_L_taken hr (by decide) rfl (qa_cons (qv 0) (qa_cons (qe_callB call_len_seq sc_len rfl T.m_len (by decide +kernel) (qa_cons (qv 5) qa_nil)) qa_nil)))) qa_nil))))))) qss_nil)
    (qss_cons (qs_if (qt_w (qw_or (qt_cmp op_eq sr_eq (qv 2) qe_int) (qw_or1 (qt_cmp op_eq sr_eq (qe_fn h_L_taken hr (by decide) rfl (qa_cons (qv 0) (qa_cons qe_int qa_nil))) qe_int)))) (qss_one (qs_ret (qe_tup (qa_cons qe_str (qa_cons (qv 3) (qa_cons (qv 4) (qa_cons qe_non qa_nil))))))) qss_nil)
    (qss_one (qs_ret (qe_tup (qa_cons qe_str (qa_cons (qv 3) (qa_cons (qv 4) (qa_cons (qe_op op_mod sr_mod (qe_op op_add sr_add (qe_op op_add sr_add (qv 4) qe_int) (qe_fn h_L_taken hr (by decide) rfl (qa_cons (qv 0) (qa_cons (qe_op op_sub sr_sub (qv 2) qe_int) qa_nil)))) (qv 2)) qa_nil))))))))))))))
def N_N_need_time : List Str := ["self", "time"]
theorem sc_N_need_time : FnScope N_N_need_time ["self", "time"] (defScope s_Net_need_time) := ⟨rfl, rfl, rfl, by decide +kernel, rfl, by decide +kernel, by decide +kernel⟩
theorem fn_N_need_time (T : Tx K mg) : Mt P w K mg base (cN K) "need_time" ["self", "time"] 1 (sp_N_need_time K) := by
  obtain ⟨fd, F⟩ := T.d_N_need_time
  refine ⟨⟨_, fd, fn_ok F sc_N_need_time len_N_need_time (fun cdv A outer s H E hr => ?_) r_N_need_time, T.cls, T.e_N_need_time, F.bindsN fun _ _ _ _ _ _ us hl => match us, hl with | [_, _], _ => rfl⟩⟩
  exact (qss_one (qs_if (qt_not (qt_chain op_le sr_le op_le sr_le (qe_fld T.cls T.n_now (qv 0)) (qv 1) (qe_gint rfl T.i_MOST_TIME))) (qss_one qs_no) qss_nil))
def N_N_need_host : List Str := ["self", "host"]
theorem sc_N_need_host : FnScope N_N_need_host ["self", "host"] (defScope s_Net_need_host) := ⟨rfl, rfl, rfl, by decide +kernel, rfl, by decide +kernel, by decide +kernel⟩
theorem fn_N_need_host (T : Tx K mg) : Mt P w K mg base (cN K) "need_host" ["self", "host"] 1 (sp_N_need_host K) := by
  obtain ⟨fd, F⟩ := T.d_N_need_host
  refine ⟨⟨_, fd, fn_ok F sc_N_need_host len_N_need_host (fun cdv A outer s H E hr => ?_) r_N_need_host, T.cls, T.e_N_need_host, F.bindsN fun _ _ _ _ _ _ us hl => match us, hl with | [_, _], _ => rfl⟩⟩
  exact (qss_one (qs_if (qt_not (qt_chain op_le sr_le op_lt sr_lt qe_int (qv 1) (qe_callB call_len_seq sc_len rfl T.m_len (by decide +kernel) (qa_cons (qe_fld T.cls T.n_spots (qv 0)) qa_nil)))) (qss_one qs_no) qss_nil))
def N_N_need_letter : List Str := ["self", "time", "host", "to"]
theorem sc_N_need_letter : FnScope N_N_need_letter ["self", "time", "host", "to"] (defScope s_Net_need_letter) := ⟨rfl, rfl, rfl, by decide +kernel, rfl, by decide +kernel, by decide +kernel⟩
theorem fn_N_need_letter (T : Tx K mg) (h_N_need_time : Mt P w K mg base (cN K) "need_time" ["self", "time"] 1 (sp_N_need_time K)) (h_N_need_host : Mt P w K mg base (cN K) "need_host" ["self", "host"] 1 (sp_N_need_host K)) : Mt P w K mg base (cN K) "need_letter" ["self", "time", "host", "to"] 2 (sp_N_need_letter K) := by
  obtain ⟨fd, F⟩ := T.d_N_need_letter
  refine ⟨⟨_, fd, fn_ok F sc_N_need_letter len_N_need_letter (fun cdv A outer s H E hr => ?_) r_N_need_letter, T.cls, T.e_N_need_letter, F.bindsN fun _ _ _ _ _ _ us hl => match us, hl with | [_, _, _, _], _ => rfl⟩⟩
  exact (qss_cons (qs_expr (qe_meth h_N_need_time hr (by decide) (qv 0) (qa_cons (qv 1) qa_nil)))
    (qss_cons (qs_expr (qe_meth h_N_need_host hr (by decide) (qv 0) (qa_cons (qv 2) qa_nil)))
    (qss_one (qs_if (qt_notN (qv 3)) (qss_cons (qs_expr (qe_meth h_N_need_host hr (by decide) (qv 0) (qa_cons (qv 3) qa_nil)))
    (qss_one (qs_if (qt_cmp (op_eqD hr.units) sr_eqD (qv 3) (qv 2)) (qss_one qs_no) qss_nil))) qss_nil))))
def N_N_hosts_at : List Str := ["self", "place", "host"]
theorem sc_N_hosts_at : FnScope N_N_hosts_at ["self", "place"] (defScope s_Net_hosts_at) := ⟨rfl, rfl, rfl, by decide +kernel, rfl, by decide +kernel, by decide +kernel⟩
theorem fn_N_hosts_at (T : Tx K mg) : Mt P w K mg base (cN K) "hosts_at" ["self", "place"] 1 (sp_N_hosts_at K) := by
  obtain ⟨fd, F⟩ := T.d_N_hosts_at
  refine ⟨⟨_, fd, fn_ok F sc_N_hosts_at len_N_hosts_at (fun cdv A outer s H E hr => ?_) r_N_hosts_at, T.cls, T.e_N_hosts_at, F.bindsN fun _ _ _ _ _ _ us hl => match us, hl with | [_, _], _ => rfl⟩⟩
  exact (qss_one (qs_ret (qe_lcR1 (own := [("host", 2)]) rfl sc_N_hosts_at.nd rfl T.m_range (qa_cons (qe_callB call_len_seq sc_len rfl T.m_len (by decide +kernel) (qa_cons (qe_fld T.cls T.n_spots (qv 0)) qa_nil)) qa_nil) (blkOk_by (N := N_N_hosts_at) (sc := defScope s_Net_hosts_at) (own := [("host", 2)]) (by decide +kernel)) (c := (.nm 2)) (tt := (dTest (dOp eEqD (dOp eIxL (dFld (cN K) "spots" (dVar 0)) (dVar 2)) (dVar 1)))) (fun _ _ _ _ _ => pg_name (i := 2) sc_N_hosts_at.nd rfl (by first | exact Or.inl rfl | exact Or.inr rfl)) (fun _ _ _ _ _ => pts_one (qt_cmp (op_eqD hr.units) sr_eqD (qe_ix ix_list sr_ixL (qe_fld T.cls T.n_spots (qv 0)) (qv 2)) (qv 1))) tt_id (fun _ _ _ _ _ => (qv 2)) (by decide))))
def N_N_learn : List Str := ["self", "box", "host", "door", "time", "known", "other"]
theorem sc_N_learn : FnScope N_N_learn ["self", "box", "host", "door", "time"] (defScope s_Net_learn) := ⟨rfl, rfl, rfl, by decide +kernel, rfl, by decide +kernel, by decide +kernel⟩
theorem fn_N_learn (T : Tx K mg) : Mt P w K mg base (cN K) "learn" ["self", "box", "host", "door", "time"] 1 (sp_N_learn K) := by
  obtain ⟨fd, F⟩ := T.d_N_learn
  refine ⟨⟨_, fd, fn_ok F sc_N_learn len_N_learn (fun cdv A outer s H E hr => ?_) r_N_learn, T.cls, T.e_N_learn, F.bindsN fun _ _ _ _ _ _ us hl => match us, hl with | [_, _, _, _, _], _ => rfl⟩⟩
  exact (qss_cons (qs_set (i := 5) sc_N_learn.nd rfl (by first | exact Or.inl rfl | exact Or.inr rfl) (qe_ix ix_list sr_ixL (qe_fld T.cls T.n_known (qv 0)) (qv 1)))
    (qss_cons (qs_if (qt_w (qw_and (qt_dnotin (hu_room hr) (qv 2) (qv 5)) (qw_and1 (qt_cmp op_eq sr_eq (qe_callB call_lenD sc_lenD rfl T.m_len (by decide +kernel) (qa_cons (qv 5) qa_nil)) (qe_fld T.cls T.n_room (qv 0)))))) (qss_one (qs_expr (qe_dpop1 (qv 5) (qe_ix ix_tup sr_ixT (qe_callB (cr_minP rfl (hu65 hr)) sc_minP rfl T.m_min (by decide +kernel) (qa_cons (qe_fz (qe_lockK (qe_lcK (own := [("other", 6)]) rfl sc_N_learn.nd (qv 5) (blkOk_by (N := N_N_learn) (sc := defScope s_Net_learn) (own := [("other", 6)]) (by decide +kernel)) (c := (.nm 6)) (tt := dYes) (fun _ _ _ _ _ => pg_name (i := 6) sc_N_learn.nd rfl (by first | exact Or.inl rfl | exact Or.inr rfl)) (fun _ _ _ _ _ => pts_nil) tt_yes (fun _ _ _ _ _ => (qe_tup (qa_cons (qe_ix ix_tup sr_ixT (qe_dget (hu_room hr) (qv 5) (qv 6)) qe_int) (qa_cons (qv 6) qa_nil)))) (by decide)))) qa_nil)) qe_int)))) qss_nil)
    (qss_one (qs_dput (hu_room hr) (qv 5) (qv 2) (qe_tup (qa_cons (qv 3) (qa_cons (qv 4) qa_nil)))))))
def N_N_door_of : List Str := ["self", "box", "host", "time", "door", "seen"]
theorem sc_N_door_of : FnScope N_N_door_of ["self", "box", "host", "time"] (defScope s_Net_door_of) := ⟨rfl, rfl, rfl, by decide +kernel, rfl, by decide +kernel, by decide +kernel⟩
theorem fn_N_door_of (T : Tx K mg) : Mt P w K mg base (cN K) "door_of" ["self", "box", "host", "time"] 1 (sp_N_door_of K) := by
  obtain ⟨fd, F⟩ := T.d_N_door_of
  refine ⟨⟨_, fd, fn_ok F sc_N_door_of len_N_door_of (fun cdv A outer s H E hr => ?_) r_N_door_of, T.cls, T.e_N_door_of, F.bindsN fun _ _ _ _ _ _ us hl => match us, hl with | [_, _, _, _], _ => rfl⟩⟩
  exact (qss_cons (qs_if (qt_dnotin (hu_room hr) (qv 2) (qe_ix ix_list sr_ixL (qe_fld T.cls T.n_known (qv 0)) (qv 1))) (qss_one (qs_ret qe_non)) qss_nil)
    (qss_cons (qs_asg (qe_dget (hu_room hr) (qe_ix ix_list sr_ixL (qe_fld T.cls T.n_known (qv 0)) (qv 1)) (qv 2)) (qg_tup rfl (qgs_cons (qg_name (i := 4) sc_N_door_of.nd rfl (by first | exact Or.inl rfl | exact Or.inr rfl)) (qgs_cons (qg_name (i := 5) sc_N_door_of.nd rfl (by first | exact Or.inl rfl | exact Or.inr rfl)) qgs_nil))))
    (qss_one (qs_ret (qe_ifExp (qt_cmp op_le sr_le (qv 3) (qe_op op_add sr_add (qv 5) (qe_fld T.cls T.n_age (qv 0)))) (qv 4) qe_non)))))
def N_N_doors_out : List Str := ["self", "box", "door", "to", "time", "there", "out"]
theorem sc_N_doors_out : FnScope N_N_doors_out ["self", "box", "door", "to", "time"] (defScope s_Net_doors_out) := ⟨rfl, rfl, rfl, by decide +kernel, rfl, by decide +kernel, by decide +kernel⟩
theorem fn_N_doors_out (T : Tx K mg) (h_N_door_of : Mt P w K mg base (cN K) "door_of" ["self", "box", "host", "time"] 1 (sp_N_door_of K)) : Mt P w K mg base (cN K) "doors_out" ["self", "box", "door", "to", "time"] 2 (sp_N_doors_out K) := by
  obtain ⟨fd, F⟩ := T.d_N_doors_out
  refine ⟨⟨_, fd, fn_ok F sc_N_doors_out len_N_doors_out (fun cdv A outer s H E hr => ?_) r_N_doors_out, T.cls, T.e_N_doors_out, F.bindsN fun _ _ _ _ _ _ us hl => match us, hl with | [_, _, _, _, _], _ => rfl⟩⟩
  exact (qss_cons (qs_set (i := 5) sc_N_doors_out.nd rfl (by first | exact Or.inl rfl | exact Or.inr rfl) (qe_ifExp (qt_isN (qv 3)) qe_non (qe_meth h_N_door_of hr (by decide) (qv 0) (qa_cons (qv 1) (qa_cons (qv 3) (qa_cons (qv 4) qa_nil))))))
    (qss_cons (qs_if (qt_isN (qv 5)) (qss_one (qs_ret (qe_lcR1 (own := [("out", 6)]) rfl sc_N_doors_out.nd rfl T.m_range (qa_cons (qe_gint rfl T.i_DOORS) qa_nil) (blkOk_by (N := N_N_doors_out) (sc := defScope s_Net_doors_out) (own := [("out", 6)]) (by decide +kernel)) (c := (.nm 6)) (tt := (dTest (dOp eNe (dVar 6) (dVar 2)))) (fun _ _ _ _ _ => pg_name (i := 6) sc_N_doors_out.nd rfl (by first | exact Or.inl rfl | exact Or.inr rfl)) (fun _ _ _ _ _ => pts_one (qt_cmp op_ne sr_ne (qv 6) (qv 2))) tt_id (fun _ _ _ _ _ => (qv 6)) (by decide)))) qss_nil)
    (qss_one (qs_ret (qe_ifExp (qt_cmp (op_neD hr.units) sr_neD (qv 5) (qv 2)) (qe_fz (qe_lst (qa_cons (qv 5) qa_nil))) (qe_fz (qe_lst qa_nil)))))))
def N_N_send : List Str := ["self", "time", "host", "to", "got", "other", "waiting", "steps", "box", "door", "out"]
theorem sc_N_send : FnScope N_N_send ["self", "time", "host", "to"] (defScope s_Net_send) := ⟨rfl, rfl, rfl, by decide +kernel, rfl, by decide +kernel, by decide +kernel⟩
theorem fn_N_send (T : Tx K mg) (h_N_need_letter : Mt P w K mg base (cN K) "need_letter" ["self", "time", "host", "to"] 2 (sp_N_need_letter K)) (h_N_hosts_at : Mt P w K mg base (cN K) "hosts_at" ["self", "place"] 1 (sp_N_hosts_at K)) (h_N_learn : Mt P w K mg base (cN K) "learn" ["self", "box", "host", "door", "time"] 1 (sp_N_learn K)) (h_N_doors_out : Mt P w K mg base (cN K) "doors_out" ["self", "box", "door", "to", "time"] 2 (sp_N_doors_out K)) : Mt P w K mg base (cN K) "send" ["self", "time", "host", "to"] 3 (sp_N_send K) := by
  obtain ⟨fd, F⟩ := T.d_N_send
  refine ⟨⟨_, fd, fn_ok F sc_N_send len_N_send (fun cdv A outer s H E hr => ?_) r_N_send, T.cls, T.e_N_send, F.bindsN fun _ _ _ _ _ _ us hl => match us, hl with | [_, _, _, _], _ => rfl⟩⟩
  exact (qss_cons (qs_expr (qe_meth h_N_need_letter hr (by decide) (qv 0) (qa_cons (qv 1) (qa_cons (qv 2) (qa_cons (qv 3) qa_nil)))))
    (qss_cons (qs_fld T.cls T.n_now (qv 0) (qv 1))
    (qss_cons (qs_setLcL (i := 4) (own := [("other", 5)]) rfl sc_N_send.nd rfl rfl (sw_true rfl rfl rfl (by decide +kernel)) (qe_meth h_N_hosts_at hr (by decide) (qv 0) (qa_cons (qe_ix ix_list sr_ixL (qe_fld T.cls T.n_spots (qv 0)) (qv 2)) qa_nil)) (blkOk_by (N := N_N_send) (sc := defScope s_Net_send) (own := [("other", 5)]) (by decide +kernel)) (c := (.nm 5)) (tt := (dTest (dOp eNe (dVar 5) (dVar 2)))) (fun _ _ _ _ _ => pg_name (i := 5) sc_N_send.nd rfl (by first | exact Or.inl rfl | exact Or.inr rfl)) (fun _ _ _ _ _ => pts_one (qt_cmp op_ne sr_ne (qv 5) (qv 2))) tt_id (fun _ _ _ _ _ => (qv 5)) (by decide))
    (qss_cons (qs_set (i := 6) sc_N_send.nd rfl (by first | exact Or.inl rfl | exact Or.inr rfl) (qe_lst (qa_cons (qe_ix ix_list sr_ixL (qe_fld T.cls T.n_spots (qv 0)) (qv 2)) qa_nil)))
    (qss_cons (qs_set (i := 7) sc_N_send.nd rfl (by first | exact Or.inl rfl | exact Or.inr rfl) qe_int)
    (qss_cons (qs_while PassesOwn.never (qt_w (qw_and (qt_cmp (op_neD hr.units) sr_neD (qv 6) (qe_fz (qe_lst qa_nil))) (qw_and1 (qt_cmp op_lt sr_lt (qv 7) (qe_gint rfl T.i_MOST_STEPS))))) (qss_cons (qs_asg (qe_bm PySem.F.plainAttrs_list PySem.F.slot_list_pop PySem.F.type_list_pop mt_popAt sm_popAt (qv 6) (qa_cons qe_int qa_nil)) (qg_tup rfl (qgs_cons (qg_name (i := 8) sc_N_send.nd rfl (by first | exact Or.inl rfl | exact Or.inr rfl)) (qgs_cons (qg_name (i := 9) sc_N_send.nd rfl (by first | exact Or.inl rfl | exact Or.inr rfl)) qgs_nil))))
    (qss_cons (qs_set (i := 7) sc_N_send.nd rfl (by first | exact Or.inl rfl | exact Or.inr rfl) (qe_op op_add sr_add (qv 7) qe_int))
    (qss_cons (qs_expr (qe_meth h_N_learn hr (by decide) (qv 0) (qa_cons (qv 8) (qa_cons (qv 2) (qa_cons (qv 9) (qa_cons (qv 1) qa_nil))))))
    (qss_one (qs_forL PassesOwn.never rfl (qe_meth h_N_doors_out hr (by decide) (qv 0) (qa_cons (qv 8) (qa_cons (qv 9) (qa_cons (qv 3) (qa_cons (qv 1) qa_nil))))) (qg_name (i := 10) sc_N_send.nd rfl (by first | exact Or.inl rfl | exact Or.inr rfl)) (qss_one (qs_if (qt_din (hu_room hr) (qe_tup (qa_cons (qv 8) (qa_cons (qv 10) qa_nil))) (qe_fld T.cls T.n_ends (qv 0))) (qss_one (qs_expr (qe_bm PySem.F.plainAttrs_list PySem.F.slot_list_append PySem.F.type_list_append mt_append sm_append (qv 6) (qa_cons (qe_dget (hu_room hr) (qe_fld T.cls T.n_ends (qv 0)) (qe_tup (qa_cons (qv 8) (qa_cons (qv 10) qa_nil)))) qa_nil)))) (qss_one (qs_expr (qe_bm PySem.F.plainAttrs_list PySem.F.slot_list_extend PySem.F.type_list_extend mt_extend sm_extend (qv 4) (qa_cons (qe_meth h_N_hosts_at hr (by decide) (qv 0) (qa_cons (qe_tup (qa_cons (qv 8) (qa_cons (qv 10) qa_nil))) qa_nil)) qa_nil))))))))))))
    (qss_one (qs_ret (qe_tup (qa_cons (qe_cmp (op_eqD hr.units) sr_eqD (qv 6) (qe_fz (qe_lst qa_nil))) (qa_cons (qv 4) (qa_cons (qv 7) qa_nil))))))))))))
def N_N_move : List Str := ["self", "time", "host", "place"]
theorem sc_N_move : FnScope N_N_move ["self", "time", "host", "place"] (defScope s_Net_move) := ⟨rfl, rfl, rfl, by decide +kernel, rfl, by decide +kernel, by decide +kernel⟩
theorem fn_N_move (T : Tx K mg) (h_N_need_time : Mt P w K mg base (cN K) "need_time" ["self", "time"] 1 (sp_N_need_time K)) (h_N_need_host : Mt P w K mg base (cN K) "need_host" ["self", "host"] 1 (sp_N_need_host K)) (h_N_need_place : Mt P w K mg base (cN K) "need_place" ["self", "host", "place"] 2 (sp_N_need_place K)) : Mt P w K mg base (cN K) "move" ["self", "time", "host", "place"] 3 (sp_N_move K) := by
  obtain ⟨fd, F⟩ := T.d_N_move
  refine ⟨⟨_, fd, fn_ok F sc_N_move len_N_move (fun cdv A outer s H E hr => ?_) r_N_move, T.cls, T.e_N_move, F.bindsN fun _ _ _ _ _ _ us hl => match us, hl with | [_, _, _, _], _ => rfl⟩⟩
  exact (qss_cons (qs_expr (qe_meth h_N_need_time hr (by decide) (qv 0) (qa_cons (qv 1) qa_nil)))
    (qss_cons (qs_expr (qe_meth h_N_need_host hr (by decide) (qv 0) (qa_cons (qv 2) qa_nil)))
    (qss_cons (qs_expr (qe_meth h_N_need_place hr (by decide) (qv 0) (qa_cons (qv 2) (qa_cons (qv 3) qa_nil))))
    (qss_cons (qs_fld T.cls T.n_now (qv 0) (qv 1))
    (qss_one (qs_asg (qv 3) (qg_sub (qe_fld T.cls T.n_spots (qv 0)) (qv 2) set_list ss_setL)))))))
def N_L_does : List Str := ["_law_net_here", "_law_deed_here"]
theorem sc_L_does : FnScope N_L_does ["_law_net_here", "_law_deed_here"] (defScope sL_does) := ⟨rfl, rfl, rfl, by decide +kernel, rfl, by decide +kernel, by decide +kernel⟩
theorem fn_L_does (T : Tx K mg) (h_N_send : Mt P w K mg base (cN K) "send" ["self", "time", "host", "to"] 3 (sp_N_send K)) (h_N_move : Mt P w K mg base (cN K) "move" ["self", "time", "host", "place"] 3 (sp_N_move K)) : Fn P w K mg base "_law_does" ["_law_net_here", "_law_deed_here"] 4 (sp_L_does K) := by
  obtain ⟨fd, F⟩ := T.d_L_does
  refine ⟨_, fd, fn_ok F sc_L_does len_L_does (fun cdv A outer s H E hr => ?_) r_L_does, T.g_L_does, F.kp, F.bindsN fun _ _ _ _ _ _ us hl => match us, hl with | [_, _], _ => rfl⟩
  exact (qss_cons (qs_if (qt_cmp op_eq sr_eq (qe_ix ix_tup sr_ixT (qv 1) qe_int) qe_str) (qss_one (qs_ret (qe_meth h_N_send hr (by decide) (qv 0) (qa_cons (qe_ix ix_tup sr_ixT (qv 1) qe_int) (qa_cons (qe_ix ix_tup sr_ixT (qv 1) qe_int) (qa_cons (qe_ix ix_tup sr_ixT (qv 1) qe_int) qa_nil)))))) qss_nil)
    (qss_one (qs_ret (qe_meth h_N_move hr (by decide) (qv 0) (qa_cons (qe_ix ix_tup sr_ixT (qv 1) qe_int) (qa_cons (qe_ix ix_tup sr_ixT (qv 1) qe_int) (qa_cons (qe_ix ix_tup sr_ixT (qv 1) qe_int) qa_nil)))))))
def N_N_places : List Str := ["self"]
theorem sc_N_places : FnScope N_N_places ["self"] (defScope s_Net_places) := ⟨rfl, rfl, rfl, by decide +kernel, rfl, by decide +kernel, by decide +kernel⟩
theorem fn_N_places (T : Tx K mg) : Mt P w K mg base (cN K) "places" ["self"] 1 (sp_N_places K) := by
  obtain ⟨fd, F⟩ := T.d_N_places
  refine ⟨⟨_, fd, fn_ok F sc_N_places len_N_places (fun cdv A outer s H E hr => ?_) r_N_places, T.cls, T.e_N_places, F.bindsN fun _ _ _ _ _ _ us hl => match us, hl with | [_], _ => rfl⟩⟩
  exact (qss_one (qs_ret (qe_callTy call_list_of sc_list rfl T.m_list (by decide +kernel) (qa_cons (qe_fld T.cls T.n_spots (qv 0)) qa_nil))))
def N_N_knows : List Str := ["self", "box", "host"]
theorem sc_N_knows : FnScope N_N_knows ["self", "box"] (defScope s_Net_knows) := ⟨rfl, rfl, rfl, by decide +kernel, rfl, by decide +kernel, by decide +kernel⟩
theorem fn_N_knows (T : Tx K mg) : Mt P w K mg base (cN K) "knows" ["self", "box"] 1 (sp_N_knows K) := by
  obtain ⟨fd, F⟩ := T.d_N_knows
  refine ⟨⟨_, fd, fn_ok F sc_N_knows len_N_knows (fun cdv A outer s H E hr => ?_) r_N_knows, T.cls, T.e_N_knows, F.bindsN fun _ _ _ _ _ _ us hl => match us, hl with | [_, _], _ => rfl⟩⟩
  exact (qss_one (qs_ret (qe_lcL (own := [("host", 2)]) rfl sc_N_knows.nd (qe_fz (qe_callB (call_sortedDI rfl) sc_sortK rfl T.m_sorted (by decide +kernel) (qa_cons (qe_ix ix_list sr_ixL (qe_fld T.cls T.n_known (qv 0)) (qv 1)) qa_nil))) (blkOk_by (N := N_N_knows) (sc := defScope s_Net_knows) (own := [("host", 2)]) (by decide +kernel)) (c := (.nm 2)) (tt := dYes) (fun _ _ _ _ _ => pg_name (i := 2) sc_N_knows.nd rfl (by first | exact Or.inl rfl | exact Or.inr rfl)) (fun _ _ _ _ _ => pts_nil) tt_yes (fun _ _ _ _ _ => (qe_op op_catA sr_catT (qe_tup (qa_cons (qv 2) qa_nil)) (qe_dget (hu_room hr) (qe_ix ix_list sr_ixL (qe_fld T.cls T.n_known (qv 0)) (qv 1)) (qv 2)))) (by decide))))
def N_boxes_from : List Str := ["net", "begin", "closed", "found", "left", "here", "place", "other"]
theorem sc_boxes_from : FnScope N_boxes_from ["net", "begin", "closed"] (defScope s_boxes_from) := ⟨rfl, rfl, rfl, by decide +kernel, rfl, by decide +kernel, by decide +kernel⟩
theorem fn_boxes_from (T : Tx K mg) : Fn P w K mg base "boxes_from" ["net", "begin", "closed"] 1 (sp_boxes_from K) := by
  obtain ⟨fd, F⟩ := T.d_boxes_from
  refine ⟨_, fd, fn_ok F sc_boxes_from len_boxes_from (fun cdv A outer s H E hr => ?_) r_boxes_from, T.g_boxes_from, F.kp, F.bindsN fun _ _ _ _ _ _ us hl => match us, hl with | [_, _, _], _ => rfl⟩
  exact (qss_cons (qs_set (i := 3) sc_boxes_from.nd rfl (by first | exact Or.inl rfl | exact Or.inr rfl) (qe_lst (qa_cons (qv 1) qa_nil)))
    (qss_cons (qs_set (i := 4) sc_boxes_from.nd rfl (by first | exact Or.inl rfl | exact Or.inr rfl) (qe_lst (qa_cons (qv 1) qa_nil)))
    (qss_cons (qs_while PassesOwn.never (qt_cmp (op_neD hr.units) sr_neD (qv 4) (qe_fz (qe_lst qa_nil))) (qss_cons (qs_set (i := 5) sc_boxes_from.nd rfl (by first | exact Or.inl rfl | exact Or.inr rfl) (qe_bm0 PySem.F.plainAttrs_list PySem.F.slot_list_pop PySem.F.type_list_pop mt_pop sm_pop (qv 4)))
    (qss_one (qs_lockT (qs_forI PassesOwn.never rfl (qe_fld T.cls T.n_ends (qv 0)) (qg_tup rfl (qgs_cons (qg_name (i := 6) sc_boxes_from.nd rfl (by first | exact Or.inl rfl | exact Or.inr rfl)) (qgs_cons (qg_name (i := 7) sc_boxes_from.nd rfl (by first | exact Or.inl rfl | exact Or.inr rfl)) qgs_nil))) (qss_one (qs_if (qt_w (qw_and (qt_cmp op_eq sr_eq (qe_ix ix_tup sr_ixT (qv 6) qe_int) (qv 5)) (qw_and (qt_cmp op_notIn_seq sr_inF (qe_ix ix_tup sr_ixT (qv 7) qe_int) (qv 3)) (qw_and1 (qt_cmp (op_neD hr.units) sr_neD (qe_ix ix_tup sr_ixT (qv 7) qe_int) (qv 2)))))) (qss_cons (qs_expr (qe_bm PySem.F.plainAttrs_list PySem.F.slot_list_append PySem.F.type_list_append mt_append sm_append (qv 3) (qa_cons (qe_ix ix_tup sr_ixT (qv 7) qe_int) qa_nil)))
    (qss_one (qs_expr (qe_bm PySem.F.plainAttrs_list PySem.F.slot_list_append PySem.F.type_list_append mt_append sm_append (qv 4) (qa_cons (qe_ix ix_tup sr_ixT (qv 7) qe_int) qa_nil))))) qss_nil)))))))
    (qss_one (qs_ret (qv 3))))))
def N_leads : List Str := ["net", "box", "door", "host", "spot"]
theorem sc_leads : FnScope N_leads ["net", "box", "door", "host"] (defScope s_leads) := ⟨rfl, rfl, rfl, by decide +kernel, rfl, by decide +kernel, by decide +kernel⟩
theorem fn_leads (T : Tx K mg) (h_boxes_from : Fn P w K mg base "boxes_from" ["net", "begin", "closed"] 1 (sp_boxes_from K)) : Fn P w K mg base "leads" ["net", "box", "door", "host"] 2 (sp_leads K) := by
  obtain ⟨fd, F⟩ := T.d_leads
  refine ⟨_, fd, fn_ok F sc_leads len_leads (fun cdv A outer s H E hr => ?_) r_leads, T.g_leads, F.kp, F.bindsN fun _ _ _ _ _ _ us hl => match us, hl with | [_, _, _, _], _ => rfl⟩
  exact (qss_cons (qs_set (i := 4) sc_leads.nd rfl (by first | exact Or.inl rfl | exact Or.inr rfl) (qe_ix ix_list sr_ixL (qe_fld T.cls T.n_spots (qv 0)) (qv 3)))
    (qss_cons (qs_if (qt_dnotin (hu_room hr) (qe_tup (qa_cons (qv 1) (qa_cons (qv 2) qa_nil))) (qe_fld T.cls T.n_ends (qv 0))) (qss_one (qs_ret (qe_cmp (op_eqD hr.units) sr_eqD (qv 4) (qe_tup (qa_cons (qv 1) (qa_cons (qv 2) qa_nil)))))) qss_nil)
    (qss_one (qs_ret (qe_cmp op_in_seq sr_inF (qe_ix ix_tup sr_ixT (qv 4) qe_int) (qe_fn h_boxes_from hr (by decide) rfl (qa_cons (qv 0) (qa_cons (qe_ix ix_tup sr_ixT (qe_dget (hu_room hr) (qe_fld T.cls T.n_ends (qv 0)) (qe_tup (qa_cons (qv 1) (qa_cons (qv 2) qa_nil)))) qe_int) (qa_cons (qv 1) qa_nil)))))))))
def N_L_all_know : List Str := ["_law_net_here", "_law_near", "_law_host", "_law_box", "_law_doors", "_law_one"]
theorem sc_L_all_know : FnScope N_L_all_know ["_law_net_here", "_law_near", "_law_host"] (defScope sL_all_know) := ⟨rfl, rfl, rfl, by decide +kernel, rfl, by decide +kernel, by decide +kernel⟩
theorem fn_L_all_know (T : Tx K mg) (h_N_knows : Mt P w K mg base (cN K) "knows" ["self", "box"] 1 (sp_N_knows K)) (h_leads : Fn P w K mg base "leads" ["net", "box", "door", "host"] 2 (sp_leads K)) : Fn P w K mg base "_law_all_know" ["_law_net_here", "_law_near", "_law_host"] 3 (sp_L_all_know K) := by
  obtain ⟨fd, F⟩ := T.d_L_all_know
  refine ⟨_, fd, fn_ok F sc_L_all_know len_L_all_know (fun cdv A outer s H E hr => ?_) r_L_all_know, T.g_L_all_know, F.kp, F.bindsN fun _ _ _ _ _ _ us hl => match us, hl with | [_, _, _], _ => rfl⟩
  exact (qss_cons (qs_forL PassesOwn.never rfl (qv 1) (qg_name (i := 3) sc_L_all_know.nd rfl (by first | exact Or.inl rfl | exact Or.inr rfl)) (qss_cons (qs_setLcL (i := 4) (own := [("_law_one", 5)]) rfl sc_L_all_know.nd rfl rfl (sw_true rfl rfl rfl (by decide +kernel)) (qe_meth h_N_knows hr (by decide) (qv 0) (qa_cons (qv 3) qa_nil)) (blkOk_by (N := N_L_all_know) (sc := defScope sL_all_know) (own := [("_law_one", 5)]) (by decide +kernel)) (c := (.nm 5)) (tt := (dTest (dOp eEq (dOp eIxT (dVar 5) (dC (.int 0))) (dVar 2)))) (fun _ _ _ _ _ => pg_name (i := 5) sc_L_all_know.nd rfl (by first | exact Or.inl rfl | exact Or.inr rfl)) (fun _ _ _ _ _ => pts_one (qt_cmp op_eq sr_eq (qe_ix ix_tup sr_ixT (qv 5) qe_int) (qv 2))) tt_id (fun _ _ _ _ _ => (qe_ix ix_tup sr_ixT (qv 5) qe_int)) (by decide))
    (qss_one (qs_if (qt_w (qw_or (qt_cmp (op_eqD hr.units) sr_eqD (qv 4) (qe_fz (qe_lst qa_nil))) (qw_or1 (qt_not (qt_val (qe_fn h_leads hr (by decide) rfl (qa_cons (qv 0) (qa_cons (qv 3) (qa_cons (qe_ix ix_list sr_ixL (qv 4) qe_int) (qa_cons (qv 2) qa_nil)))))))))) (qss_one (qs_ret qe_bl)) qss_nil))))
    (qss_one (qs_ret qe_bl)))
def N_wrong : List Str := ["net", "time", "found", "box", "host", "door"]
theorem sc_wrong : FnScope N_wrong ["net", "time"] (defScope s_wrong) := ⟨rfl, rfl, rfl, by decide +kernel, rfl, by decide +kernel, by decide +kernel⟩
theorem fn_wrong (T : Tx K mg) (h_N_need_time : Mt P w K mg base (cN K) "need_time" ["self", "time"] 1 (sp_N_need_time K)) (h_N_door_of : Mt P w K mg base (cN K) "door_of" ["self", "box", "host", "time"] 1 (sp_N_door_of K)) (h_leads : Fn P w K mg base "leads" ["net", "box", "door", "host"] 2 (sp_leads K)) : Fn P w K mg base "wrong" ["net", "time"] 3 (sp_wrong K) := by
  obtain ⟨fd, F⟩ := T.d_wrong
  refine ⟨_, fd, fn_ok F sc_wrong len_wrong (fun cdv A outer s H E hr => ?_) r_wrong, T.g_wrong, F.kp, F.bindsN fun _ _ _ _ _ _ us hl => match us, hl with | [_, _], _ => rfl⟩
  exact (qss_cons (qs_expr (qe_meth h_N_need_time hr (by decide) (qv 0) (qa_cons (qv 1) qa_nil)))
    (qss_cons (qs_set (i := 2) sc_wrong.nd rfl (by first | exact Or.inl rfl | exact Or.inr rfl) (qe_lst qa_nil))
    (qss_cons (qs_forR1 PassesOwn.never rfl rfl T.m_range (qa_cons (qe_ix ix_tup sr_ixT (qe_fld T.cls T.n_web (qv 0)) qe_int) qa_nil) (qg_name (i := 3) sc_wrong.nd rfl (by first | exact Or.inl rfl | exact Or.inr rfl)) (qss_one (qs_forL PassesOwn.never rfl (qe_fz (qe_callB (call_sortedDI rfl) sc_sortK rfl T.m_sorted (by decide +kernel) (qa_cons (qe_ix ix_list sr_ixL (qe_fld T.cls T.n_known (qv 0)) (qv 3)) qa_nil))) (qg_name (i := 4) sc_wrong.nd rfl (by first | exact Or.inl rfl | exact Or.inr rfl)) (qss_cons (qs_set (i := 5) sc_wrong.nd rfl (by first | exact Or.inl rfl | exact Or.inr rfl) (qe_meth h_N_door_of hr (by decide) (qv 0) (qa_cons (qv 3) (qa_cons (qv 4) (qa_cons (qv 1) qa_nil)))))
    (qss_one (qs_if (qt_w (qw_and (qt_notN (qv 5)) (qw_and1 (qt_not (qt_val (qe_fn h_leads hr (by decide) rfl (qa_cons (qv 0) (qa_cons (qv 3) (qa_cons (qv 5) (qa_cons (qv 4) qa_nil)))))))))) (qss_one (qs_expr (qe_bm PySem.F.plainAttrs_list PySem.F.slot_list_append PySem.F.type_list_append mt_append sm_append (qv 2) (qa_cons (qe_tup (qa_cons (qv 3) (qa_cons (qv 4) (qa_cons (qv 5) qa_nil)))) qa_nil)))) qss_nil))))))
    (qss_one (qs_ret (qv 2))))))
def N_L_moved_since : List Str := ["_law_moves", "_law_net_here", "_law_box", "_law_host", "_law_one"]
theorem sc_L_moved_since : FnScope N_L_moved_since ["_law_moves", "_law_net_here", "_law_box", "_law_host"] (defScope sL_moved_since) := ⟨rfl, rfl, rfl, by decide +kernel, rfl, by decide +kernel, by decide +kernel⟩
theorem fn_L_moved_since (T : Tx K mg) (h_N_knows : Mt P w K mg base (cN K) "knows" ["self", "box"] 1 (sp_N_knows K)) : Fn P w K mg base "_law_moved_since" ["_law_moves", "_law_net_here", "_law_box", "_law_host"] 2 (sp_L_moved_since K) := by
  obtain ⟨fd, F⟩ := T.d_L_moved_since
  refine ⟨_, fd, fn_ok F sc_L_moved_since len_L_moved_since (fun cdv A outer s H E hr => ?_) r_L_moved_since, T.g_L_moved_since, F.kp, F.bindsN fun _ _ _ _ _ _ us hl => match us, hl with | [_, _, _, _], _ => rfl⟩
  exact (qss_one (qs_ret (qe_cmp op_le sr_le (qe_ix ix_list sr_ixL (qe_fz (qe_lcL (own := [("_law_one", 4)]) rfl sc_L_moved_since.nd (qe_meth h_N_knows hr (by decide) (qv 1) (qa_cons (qv 2) qa_nil)) (blkOk_by (N := N_L_moved_since) (sc := defScope sL_moved_since) (own := [("_law_one", 4)]) (by decide +kernel)) (c := (.nm 4)) (tt := (dTest (dOp eEq (dOp eIxT (dVar 4) (dC (.int 0))) (dVar 3)))) (fun _ _ _ _ _ => pg_name (i := 4) sc_L_moved_since.nd rfl (by first | exact Or.inl rfl | exact Or.inr rfl)) (fun _ _ _ _ _ => pts_one (qt_cmp op_eq sr_eq (qe_ix ix_tup sr_ixT (qv 4) qe_int) (qv 3))) tt_id (fun _ _ _ _ _ => (qe_ix ix_tup sr_ixT (qv 4) qe_int)) (by decide))) qe_int) (qe_ix ix_list sr_ixL (qv 0) (qv 3)))))
def N_until : List Str := ["net", "some", "box", "host", "door"]
theorem sc_until : FnScope N_until ["net"] (defScope s_until) := ⟨rfl, rfl, rfl, by decide +kernel, rfl, by decide +kernel, by decide +kernel⟩
theorem fn_until (T : Tx K mg) (h_wrong : Fn P w K mg base "wrong" ["net", "time"] 3 (sp_wrong K)) : Fn P w K mg base "until" ["net"] 4 (sp_until K) := by
  obtain ⟨fd, F⟩ := T.d_until
  refine ⟨_, fd, fn_ok F sc_until len_until (fun cdv A outer s H E hr => ?_) r_until, T.g_until, F.kp, F.bindsN fun _ _ _ _ _ _ us hl => match us, hl with | [_], _ => rfl⟩
  exact (qss_cons (qs_setLcL (i := 1) (own := [("box", 2), ("host", 3), ("door", 4)]) rfl sc_until.nd rfl rfl (sw_true rfl rfl rfl (by decide +kernel)) (qe_fn h_wrong hr (by decide) rfl (qa_cons (qv 0) (qa_cons (qe_fld T.cls T.n_now (qv 0)) qa_nil))) (blkOk_by (N := N_until) (sc := defScope s_until) (own := [("box", 2), ("host", 3), ("door", 4)]) (by decide +kernel)) (c := (.tp [2, 3, 4])) (tt := dYes) (fun _ _ _ _ _ => pg_tup rfl (pgs_cons (pg_name (i := 2) sc_until.nd rfl (by first | exact Or.inl rfl | exact Or.inr rfl)) (pgs_cons (pg_name (i := 3) sc_until.nd rfl (by first | exact Or.inl rfl | exact Or.inr rfl)) (pgs_cons (pg_name (i := 4) sc_until.nd rfl (by first | exact Or.inl rfl | exact Or.inr rfl)) pgs_nil)))) (fun _ _ _ _ _ => pts_nil) tt_yes (fun _ _ _ _ _ => (qe_op op_add sr_add (qe_op op_add sr_add (qe_ix ix_tup sr_ixT (qe_dget (hu_room hr) (qe_ix ix_list sr_ixL (qe_fld T.cls T.n_known (qv 0)) (qv 2)) (qv 3)) qe_int) (qe_fld T.cls T.n_age (qv 0))) qe_int)) (by decide))
    (qss_one (qs_ret (qe_callB (cr_max rfl) sc_maxL rfl T.m_max (by decide +kernel) (qa_cons (qe_fz (qe_op op_cat sr_cat (qv 1) (qe_fz (qe_lst (qa_cons (qe_fld T.cls T.n_now (qv 0)) qa_nil))))) qa_nil)))))
def N_law : List Str := ["_law_script", "_law_row", "_law_n", "_law_net_here", "_law_joined_here", "_law_hosts", "_law_moves", "_law_clear", "_law_turn", "_law_deed_here", "_law_box", "_law_host", "_law_door_here", "_law_end"]
theorem sc_law : FnScope N_law ["_law_script"] (defScope s_law) := ⟨rfl, rfl, rfl, by decide +kernel, rfl, by decide +kernel, by decide +kernel⟩
theorem ok_law {fd : FuncData} (T : Tx K mg) (F : FunD K "law" "law" (defArgs s_law) (defBody s_law) (defScope s_law) [] [] (He.fAd K ("law", none)) fd) (h_L_web : Fn P w K mg base "_law_web" ["_law_row", "_law_rings"] 3 (sp_L_web K)) (h_L_fresh : Fn P w K mg base "_law_fresh" ["_law_row", "_law_web_here"] 3 (sp_L_fresh K)) (h_L_net : Fn P w K mg base "_law_net" ["_law_n"] 5 (sp_L_net K)) (h_L_joined : Fn P w K mg base "_law_joined" ["_law_web_here", "_law_closed"] 1 (sp_L_joined K)) (h_L_taken : Fn P w K mg base "_law_taken" ["_law_row", "_law_many"] 1 (sp_L_taken K)) (h_L_deed : Fn P w K mg base "_law_deed" ["_law_row", "_law_n"] 3 (sp_L_deed K)) (h_L_does : Fn P w K mg base "_law_does" ["_law_net_here", "_law_deed_here"] 4 (sp_L_does K)) (h_N_places : Mt P w K mg base (cN K) "places" ["self"] 1 (sp_N_places K)) (h_L_all_know : Fn P w K mg base "_law_all_know" ["_law_net_here", "_law_near", "_law_host"] 3 (sp_L_all_know K)) (h_wrong : Fn P w K mg base "wrong" ["net", "time"] 3 (sp_wrong K)) (h_L_moved_since : Fn P w K mg base "_law_moved_since" ["_law_moves", "_law_net_here", "_law_box", "_law_host"] 2 (sp_L_moved_since K)) (h_until : Fn P w K mg base "until" ["net"] 4 (sp_until K)) : FnOk P w K mg base CX0 6 (He.fAd K ("law", none)) fd ["_law_script"] (lSp (sp_law K)) := by
  refine fn_ok F sc_law len_law (fun cdv A outer s H E hr => ?_) r_law
  exact (qss_cons (qs_set (i := 1) sc_law.nd rfl (by first | exact Or.inl rfl | exact Or.inr rfl) (qe_fz (qe_lst (qa_cons (qv 0) (qa_cons qe_int (qa_cons qe_int (qa_cons qe_int qa_nil)))))))
    (qss_cons (qs_set (i := 2) sc_law.nd rfl (by first | exact Or.inl rfl | exact Or.inr rfl) (qe_fn h_L_fresh hr (by decide) rfl (qa_cons (qv 1) (qa_cons (qe_fn h_L_web hr (by decide) rfl (qa_cons (qv 1) (qa_cons qe_int qa_nil))) qa_nil))))
    (qss_cons (qs_set (i := 3) sc_law.nd rfl (by first | exact Or.inl rfl | exact Or.inr rfl) (qe_fn h_L_net hr (by decide) rfl (qa_cons (qv 2) qa_nil)))
    (qss_cons (qs_set (i := 4) sc_law.nd rfl (by first | exact Or.inl rfl | exact Or.inr rfl) (qe_fn h_L_joined hr (by decide) rfl (qa_cons (qe_dget (hu_room hr) (qv 2) qe_str) (qa_cons qe_non qa_nil))))
    (qss_cons (qs_set (i := 5) sc_law.nd rfl (by first | exact Or.inl rfl | exact Or.inr rfl) (qe_callB call_len_seq sc_len rfl T.m_len (by decide +kernel) (qa_cons (qe_dget (hu_room hr) (qv 2) qe_str) qa_nil)))
    (qss_cons (qs_set (i := 6) sc_law.nd rfl (by first | exact Or.inl rfl | exact Or.inr rfl) (qe_op op_rep sr_rep (qe_fz (qe_lst (qa_cons (qe_op op_sub sr_sub qe_int qe_int) qa_nil))) (qv 5)))
    (qss_cons (qs_set (i := 7) sc_law.nd rfl (by first | exact Or.inl rfl | exact Or.inr rfl) (qe_op op_rep sr_rep (qe_fz (qe_lst (qa_cons qe_bl qa_nil))) (qv 5)))
    (qss_cons (qs_forR1 PassesOwn.never rfl rfl T.m_range (qa_cons (qe_fn h_L_taken hr (by decide) rfl (qa_cons (qv 1) (qa_cons qe_int qa_nil))) qa_nil) (qg_name (i := 8) sc_law.nd rfl (by first | exact Or.inl rfl | exact Or.inr rfl)) (qss_cons (qs_set (i := 9) sc_law.nd rfl (by first | exact Or.inl rfl | exact Or.inr rfl) (qe_fn h_L_deed hr (by decide) rfl (qa_cons (qv 1) (qa_cons (qv 2) qa_nil))))
    (qss_cons (qs_expr (qe_fn h_L_does hr (by decide) rfl (qa_cons (qv 3) (qa_cons (qv 9) qa_nil))))
    (qss_cons (qs_dput (hu_room hr) (qv 2) qe_str (qe_ix ix_tup sr_ixT (qv 9) qe_int))
    (qss_cons (qs_dput (hu_room hr) (qv 2) qe_str (qe_meth0 h_N_places hr (by decide) (qv 3)))
    (qss_cons (qs_if (qt_cmp op_eq sr_eq (qe_ix ix_tup sr_ixT (qv 9) qe_int) qe_str) (qss_cons (qs_asg (qe_ix ix_tup sr_ixT (qv 9) qe_int) (qg_sub (qv 6) (qe_ix ix_tup sr_ixT (qv 9) qe_int) set_list ss_setL))
    (qss_one (qs_asg qe_bl (qg_sub (qv 7) (qe_ix ix_tup sr_ixT (qv 9) qe_int) set_list ss_setL)))) (qss_one (qs_if (qt_isN (qe_ix ix_tup sr_ixT (qv 9) qe_int)) (qss_cons (qs_asg qe_bl (qg_sub (qv 7) (qe_ix ix_tup sr_ixT (qv 9) qe_int) set_list ss_setL))
    (qss_one (qs_if (qt_not (qt_val (qe_fn h_L_all_know hr (by decide) rfl (qa_cons (qv 3) (qa_cons (qe_ix ix_list sr_ixL (qv 4) (qe_ix ix_tup sr_ixT (qe_ix ix_list sr_ixL (qe_dget (hu_room hr) (qv 2) qe_str) (qe_ix ix_tup sr_ixT (qv 9) qe_int)) qe_int)) (qa_cons (qe_ix ix_tup sr_ixT (qv 9) qe_int) qa_nil)))))) (qss_one (qs_ret qe_bl)) qss_nil))) qss_nil)))
    (qss_cons (qs_forL PassesOwn.never rfl (qe_fn h_wrong hr (by decide) rfl (qa_cons (qv 3) (qa_cons (qe_dget (hu_room hr) (qv 2) qe_str) qa_nil))) (qg_tup rfl (qgs_cons (qg_name (i := 10) sc_law.nd rfl (by first | exact Or.inl rfl | exact Or.inr rfl)) (qgs_cons (qg_name (i := 11) sc_law.nd rfl (by first | exact Or.inl rfl | exact Or.inr rfl)) (qgs_cons (qg_name (i := 12) sc_law.nd rfl (by first | exact Or.inl rfl | exact Or.inr rfl)) qgs_nil)))) (qss_cons (qs_if (qt_w (qw_or (qt_not (qt_val (qe_fn h_L_moved_since hr (by decide) rfl (qa_cons (qv 6) (qa_cons (qv 3) (qa_cons (qv 10) (qa_cons (qv 11) qa_nil))))))) (qw_or1 (qt_cmp op_gt sr_gt (qe_dget (hu_room hr) (qv 2) qe_str) (qe_op op_add sr_add (qe_ix ix_list sr_ixL (qv 6) (qv 11)) (qe_dget (hu_room hr) (qv 2) qe_str)))))) (qss_one (qs_ret qe_bl)) qss_nil)
    (qss_one (qs_if (qt_w (qw_and (qt_val (qe_ix ix_list sr_ixL (qv 7) (qv 11))) (qw_and1 (qt_cmp op_in_seq sr_inF (qv 10) (qe_ix ix_list sr_ixL (qv 4) (qe_ix ix_tup sr_ixT (qe_ix ix_list sr_ixL (qe_dget (hu_room hr) (qv 2) qe_str) (qv 11)) qe_int)))))) (qss_one (qs_ret qe_bl)) qss_nil))))
    (qss_cons (qs_set (i := 13) sc_law.nd rfl (by first | exact Or.inl rfl | exact Or.inr rfl) (qe_fn h_until hr (by decide) rfl (qa_cons (qv 3) qa_nil)))
    (qss_one (qs_if (qt_w (qw_or (qt_w (qw_and (qt_cmp op_gt sr_gt (qv 13) (qe_dget (hu_room hr) (qv 2) qe_str)) (qw_and1 (qt_cmp op_gt sr_gt (qv 13) (qe_op op_add sr_add (qe_op op_add sr_add (qe_callB (cr_max rfl) sc_maxL rfl T.m_max (by decide +kernel) (qa_cons (qv 6) qa_nil)) (qe_dget (hu_room hr) (qv 2) qe_str)) qe_int))))) (qw_or1 (qt_w (qw_and (qt_cmp op_le sr_le (qv 13) qe_int) (qw_and1 (qt_cmp (op_neD hr.units) sr_neD (qe_fn h_wrong hr (by decide) rfl (qa_cons (qv 3) (qa_cons (qv 13) qa_nil))) (qe_fz (qe_lst qa_nil))))))))) (qss_one (qs_ret qe_bl)) qss_nil))))))))))
    (qss_one (qs_ret qe_bl))))))))))
theorem all_law {fd : FuncData} (T : Tx K mg) (F : FunD K "law" "law" (defArgs s_law) (defBody s_law) (defScope s_law) [] [] (He.fAd K ("law", none)) fd) : FnOk P w K mg base CX0 6 (He.fAd K ("law", none)) fd ["_law_script"] (lSp (sp_law K)) := by
  have h_L_taken := fn_L_taken (P := P) (w := w) (base := base) T 
  have h_L_free := fn_L_free (P := P) (w := w) (base := base) T 
  have h_L_link := fn_L_link (P := P) (w := w) (base := base) T h_L_free h_L_taken
  have h_L_web := fn_L_web (P := P) (w := w) (base := base) T h_L_taken h_L_link
  have h_L_ends := fn_L_ends (P := P) (w := w) (base := base) T 
  have h_L_places := fn_L_places (P := P) (w := w) (base := base) T h_L_ends
  have h_L_fresh := fn_L_fresh (P := P) (w := w) (base := base) T h_L_places h_L_taken
  have h_is_door := fn_is_door (P := P) (w := w) (base := base) T 
  have h_need_web := fn_need_web (P := P) (w := w) (base := base) T h_is_door
  have h_N_need_place := fn_N_need_place (P := P) (w := w) (base := base) T h_is_door
  have h_N_init := fn_N_init (P := P) (w := w) (base := base) T h_need_web h_N_need_place
  have h_L_net := fn_L_net (P := P) (w := w) (base := base) T h_N_init
  have h_L_joined := fn_L_joined (P := P) (w := w) (base := base) T 
  have h_L_deed := fn_L_deed (P := P) (w := w) (base := base) T h_L_taken h_L_places
  have h_N_need_time := fn_N_need_time (P := P) (w := w) (base := base) T 
  have h_N_need_host := fn_N_need_host (P := P) (w := w) (base := base) T 
  have h_N_need_letter := fn_N_need_letter (P := P) (w := w) (base := base) T h_N_need_time h_N_need_host
  have h_N_hosts_at := fn_N_hosts_at (P := P) (w := w) (base := base) T 
  have h_N_learn := fn_N_learn (P := P) (w := w) (base := base) T 
  have h_N_door_of := fn_N_door_of (P := P) (w := w) (base := base) T 
  have h_N_doors_out := fn_N_doors_out (P := P) (w := w) (base := base) T h_N_door_of
  have h_N_send := fn_N_send (P := P) (w := w) (base := base) T h_N_need_letter h_N_hosts_at h_N_learn h_N_doors_out
  have h_N_move := fn_N_move (P := P) (w := w) (base := base) T h_N_need_time h_N_need_host h_N_need_place
  have h_L_does := fn_L_does (P := P) (w := w) (base := base) T h_N_send h_N_move
  have h_N_places := fn_N_places (P := P) (w := w) (base := base) T 
  have h_N_knows := fn_N_knows (P := P) (w := w) (base := base) T 
  have h_boxes_from := fn_boxes_from (P := P) (w := w) (base := base) T 
  have h_leads := fn_leads (P := P) (w := w) (base := base) T h_boxes_from
  have h_L_all_know := fn_L_all_know (P := P) (w := w) (base := base) T h_N_knows h_leads
  have h_wrong := fn_wrong (P := P) (w := w) (base := base) T h_N_need_time h_N_door_of h_leads
  have h_L_moved_since := fn_L_moved_since (P := P) (w := w) (base := base) T h_N_knows
  have h_until := fn_until (P := P) (w := w) (base := base) T h_wrong
  exact ok_law T F h_L_web h_L_fresh h_L_net h_L_joined h_L_taken h_L_deed h_L_does h_N_places h_L_all_know h_wrong h_L_moved_since h_until
end
theorem facts {P : Program} {w : World} {K : PySem.W.Frag} {h : Heap} {mg : Str → Option Value} {f : Addr} (X : K.In h) (G : h.Ns mainGlobals mg) (hfa : mg ("law" : Str) = some (.ref f)) (c : He.SaysD fa fn K) :
    ∃ fd : FuncData, (∀ (s : Shared) (v : Value), BindsTo s fd ⟨[v], []⟩ [("_law_script", v)]) ∧ ∀ base : Heap, K.In base → base.Ns mainGlobals mg → FnOk P w K mg base CX0 6 f fd ["_law_script"] (lSp (sp_law K)) := by
  have T := tx X G c
  obtain ⟨fd, F⟩ := T.d_law
  have e := hfa.symm.trans T.g_law
  cases e
  have b := FunD.bindsA (ps := ["_law_script"]) F fun _ _ _ _ _ _ us hl => match us, hl with | [_], _ => rfl
  exact ⟨fd, fun s v => b s [v] rfl, fun base _ _ => all_law T F⟩
end Dg
open PySem PySem.W PySem.Calls PyProof.Rows
theorem PySem.Challenge.cw_learnports_k07_whole_never_long_at_the_w_holds : PySem.Challenge.rw_learnports_k07_whole_never_long_at_the_w.Holds := by
  refine Op.top_of fun w mg fa h Y G hmg => ?_
  obtain ⟨K, KX, c⟩ := Y
  obtain ⟨fd, hb, hF⟩ := Dg.facts (P := (PySem.Challenge.rw_learnports_k07_whole_never_long_at_the_w).prog) (w := w) KX G hmg c
  exact ⟨K, fd, Dg.lSp (Dg.sp_law K), KX, hb, fun H a ns hl ho hS => Dg.law_start ho hS _, hF⟩
