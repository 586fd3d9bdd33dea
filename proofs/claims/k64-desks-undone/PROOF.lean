import PyProof.Rows.All
import Wide.All
import OpenK.AllK
import Wide.FinOn
import HandS.Call
import HandS.Exc
import HandS.More
import HandS.HeadHook4
import HandS.Property
import KE.KExcInit
import HandS.Words
import PySem.Challenge.RW_touchpasses_k64_desks_undone
import Wide.Once
import HandS.Head0
import HandS.Head1
import HandS.Head2
import HandS.ForMost
import HandS.ForExc
import HandS.Defaults
import HandS.CallSlots
import HandS.Lambda
import HandS.TupAny
import HandS.Wide
import HandS.WideMore
import HandS.Star
import HandS.IsInst
import HandS.DictComp
import HandS.Iter
import HandS.Zip
import HandS.Text
import HandS.WideBits
import KE.GoesZip
import KE.GoesMore
import HandS.OwnEq
import KE.KCallOwn
import OpenK.KOps
import HandS.ExcInit
import HandS.TryOnly
import HandS.TryMany
import KE.SortKeyHeap
import HandS.Strs
import HandS.Style
import HandS.Conv
import KE.KEqNest
import HandS.EndTab
import HandS.HeadWalk
set_option Elab.async false
set_option linter.all false
set_option maxRecDepth 100000
section
set_option maxRecDepth 100000
set_option maxHeartbeats 1000000
/-! What the head tells: defs (getters of properties too), tables, and whatever else is decided over the part of the heap that is looked at. -/
namespace Qh
open PySem PySem.Spec PyProof.Rows
open L2
open He (refV ga ma fAd ba eqO eqO_ok FnW Dv dflB dflB_ok relB relB_ok relAll relAll_ok Tab dicW dicW_ok keysIn frT frT_in emptyTab Defn cT tabsB codeOf codeOf_eq codeIn_ref tupB tupB_ok)
/-! ### the part of the heap that is looked at: a layer after the other -/
def refsQ (o : Obj) : List Addr := match o.data with
  | .seq its _ => its.toList.flatMap refV
  | .dict es _ => es.toList.flatMap fun e => refV e.val
  | .func fd => refV fd.code ++ refV fd.defaults
  | .cls cd => [cd.ns]
  | .fields vs => (match o.cls with
    | .type c => if c = "code" then [] else vs.toList.flatMap refV
    | _ => [])
  | _ => []
def layer (g : Addr → Option Obj) (as : List Addr) : List Addr := as.flatMap fun a => match g a with
  | some o => refsQ o
  | none => []
def layers (g : Addr → Option Obj) : Nat → List Addr → List Addr
  | 0, as => as
  | n + 1, as => as ++ layers g n (layer g as)
def asQ (g : Addr → Option Obj) : List Addr := layers g 5 [mainGlobals]
/-! ### defs -/
/-- the getter of the property f of the class C -/
def gAd (C f : Str) (K : PySem.W.Frag) : Addr := match PySem.W.recIn K (ma K (ga K C) f) "property" with
  | some (.ref g :: _) => g
  | _ => 0
structure Dq where
  at_ : PySem.W.Frag → Addr
  name : Str
  qual : Str
  params : Arguments
  body : List Stmt
  scope : Scope
  dfl : List Dv := []
def fnW (K : PySem.W.Frag) (a : Addr) : FnW := match K.lookup a with
  | some ⟨_, _, .func fd, _⟩ => some (fd.name, fd.qualname, fd.params, fd.body, fd.scope, fd.globals, fd.closure, fd.builtins)
  | _ => none
def Dq.val (d : Dq) : FnW := some (d.name, d.qual, d.params, .stmts d.body, d.scope, mainGlobals, [], builtinsNs)
def Dq.dvs (K : PySem.W.Frag) (d : Dq) : List V := d.dfl.map (Dv.v K)
def Dq.ok (K : PySem.W.Frag) (d : Dq) : Bool := PySem.W.keepIn K (.ref (d.at_ K)) && (match K.lookup (d.at_ K) with
  | some ⟨_, _, .func fd, _⟩ => PySem.W.codeIn K fd.code d.qual && dflB K fd.defaults (d.dvs K)
  | _ => false)
theorem Dq.funD {K : PySem.W.Frag} {d : Dq} (e : fnW K (d.at_ K) = d.val) (c : d.ok K = true) : ∃ fd, FunD K d.name d.qual d.params d.body d.scope (d.dvs K) [] (d.at_ K) fd := by
  obtain ⟨kp, c2⟩ := ba c
  unfold fnW at e
  cases q : K.lookup (d.at_ K) with
  | none =>
    rw [q] at c2
    cases c2
  | some o =>
    obtain ⟨oc, od, dt, osl⟩ := o
    rw [q] at c2 e
    cases dt with
    | func fd =>
      obtain ⟨n1, n2, n3, n4, n5, n6, n7, n8, n9, n10, n11, n12, n13, n14, n15⟩ := fd
      have e2 : (some (n1, n2, n3, n4, n5, n6, n7, n15) : FnW) = some (d.name, d.qual, d.params, .stmts d.body, d.scope, mainGlobals, [], builtinsNs) := e
      simp only [Option.some.injEq, Prod.mk.injEq] at e2
      obtain ⟨h1, h2, h3, h4, h5, h6, h7, h8⟩ := e2
      subst h1 h2 h3 h4 h5 h6 h7 h8
      obtain ⟨k1, k3⟩ := ba (show (PySem.W.codeIn K n13 d.qual && dflB K n8 (d.dvs K)) = true from c2)
      exact ⟨_, ⟨oc, od, n8, n9, n10, n11, n12, n13, n14, osl, rfl, q, k1, dflB_ok k3, .inl rfl⟩, kp⟩
    | _ => cases c2
/-! ### the Hook -/
abbrev AlQ : Type := List FnW × List (Option (List (Option (Str × Int)))) × Bool
section
variable (ds : List Dq) (ts : List Tab) (tf : List Defn) (ex : List (PySem.W.Frag → Bool))
def obsK (g : Addr → Option Obj) (K : PySem.W.Frag) : AlQ := (ds.map fun d => fnW K (d.at_ K), ts.map fun t => dicW K (t.1 K), (ds.all fun d => d.ok K) && ((ex.all fun f => f K) && tabsB g tf K))
def obsQ (g : Addr → Option Obj) : AlQ := obsK ds ts tf ex g (frT g (asQ g))
def valQ (w : World) : AlQ := (ds.map Dq.val, ts.map fun t => some (keysIn w.params t.2), true)
structure SaysQ (w : World) (h : Heap) (K : PySem.W.Frag) : Prop where
  fn : ds.map (fun d => fnW K (d.at_ K)) = ds.map Dq.val
  tab : ts.map (fun t => dicW K (t.1 K)) = ts.map fun t => some (keysIn w.params t.2)
  ok : (ds.all fun d => d.ok K) = true
  more : (ex.all fun f => f K) = true
  hd : ∀ p ∈ tf, PySem.W.codeHdIn K (cT K p).1 (cT K p).2 = true
  out : ∀ p ∈ tf, K.lookup (cT K p).2 = none
  empty : ∀ p ∈ tf, h.get? (cT K p).2 = some { cls := .none, data := .fields #[] }
end
section
variable {ds : List Dq} {ts : List Tab} {tf : List Defn} {ex : List (PySem.W.Frag → Bool)} {w : World} {h : Heap} {K : PySem.W.Frag}
theorem says_of (e : obsQ ds ts tf ex h.get? = valQ ds ts w) : SaysQ ds ts tf ex w h (frT h.get? (asQ h.get?)) := by
  have e1 := congrArg (fun z : AlQ => z.1) e
  have e2 := congrArg (fun z : AlQ => z.2.1) e
  obtain ⟨h0, h1⟩ := ba (show ((ds.all fun d => d.ok (frT h.get? (asQ h.get?))) && ((ex.all fun f => f (frT h.get? (asQ h.get?))) && tabsB h.get? tf (frT h.get? (asQ h.get?)))) = true from congrArg (fun z : AlQ => z.2.2) e)
  obtain ⟨h1, h2⟩ := ba h1
  have key : ∀ p ∈ tf, PySem.W.codeHdIn (frT h.get? (asQ h.get?)) (cT (frT h.get? (asQ h.get?)) p).1 (cT (frT h.get? (asQ h.get?)) p).2 = true ∧ ∃ o, h.get? (cT (frT h.get? (asQ h.get?)) p).2 = some o ∧ emptyTab o = true := fun p hp => by
    obtain ⟨h3, h4⟩ := ba (List.all_eq_true.mp h2 p hp)
    refine ⟨h3, ?_⟩
    cases q : h.get? (cT (frT h.get? (asQ h.get?)) p).2 with
    | none =>
      rw [q] at h4
      cases h4
    | some o =>
      rw [q] at h4
      exact ⟨o, rfl, h4⟩
  exact ⟨e1, e2, h0, h1, fun p hp => (key p hp).1, fun p hp => by
    obtain ⟨_, o, q, z⟩ := key p hp
    exact He.frT_none q z, fun p hp => by
    obtain ⟨_, o, q, z⟩ := key p hp
    rw [q, He.emptyTab_eq z]⟩
def hookQ (ds : List Dq) (ts : List Tab) (tf : List Defn) (ex : List (PySem.W.Frag → Bool)) : PySem.W.Hook where
  α := AlQ
  obs := fun s => obsQ ds ts tf ex s.heap.get?
  val := fun w => valQ ds ts w
  says := fun w h => ∃ K : PySem.W.Frag, K.In h ∧ SaysQ ds ts tf ex w h K
  of := fun _ _ e => ⟨_, frT_in, says_of e⟩
  keeps := fun _ _ _ ⟨K, hK, c⟩ k => ⟨K, PySem.W.Frag.In.keeps hK k, ⟨c.fn, c.tab, c.ok, c.more, c.hd, c.out, fun p hp => k _ _ (c.empty p hp)⟩⟩
theorem obsQ_eq {g : Addr → Option Obj} {s : Shared} (h : ∀ a, g a = s.heap.get? a) : obsQ ds ts tf ex g = (hookQ ds ts tf ex).obs s := by
  have e : g = s.heap.get? := funext h
  rw [e] <;> rfl
theorem SaysQ.q (c : SaysQ ds ts tf ex w h K) (i : Nat) {f : PySem.W.Frag → Bool} (hi : ex[i]? = some f := by rfl) : f K = true := List.all_eq_true.mp c.more f (List.mem_of_getElem? hi)
theorem SaysQ.d (c : SaysQ ds ts tf ex w h K) (i : Nat) {d : Dq} (hi : ds[i]? = some d := by rfl) : ∃ fd, FunD K d.name d.qual d.params d.body d.scope (d.dvs K) [] (d.at_ K) fd := by
  have e2 : (ds.map fun d => fnW K (d.at_ K))[i]? = (ds.map Dq.val)[i]? := by rw [c.fn]
  rw [List.getElem?_map, List.getElem?_map, hi] at e2
  exact Dq.funD (Option.some.inj e2) (List.all_eq_true.mp c.ok d (List.mem_of_getElem? hi))
theorem SaysQ.t (c : SaysQ ds ts tf ex w h K) (i : Nat) {t : Tab} (hi : ts[i]? = some t := by rfl) : ∃ es n, KDict K w (t.1 K) es n := by
  have e2 : (ts.map fun t => dicW K (t.1 K))[i]? = (ts.map fun t => some (keysIn w.params t.2))[i]? := by rw [c.tab]
  rw [List.getElem?_map, List.getElem?_map, hi] at e2
  exact dicW_ok (Option.some.inj e2)
end
/-! ### facts -/
section
variable {K : PySem.W.Frag} {w : World} {h : Heap} {mg : Str → Option Value} {x y f : Str}
def qGlo (x : Str) (K : PySem.W.Frag) : Bool := eqO (PySem.W.nsIn K mainGlobals x) (some (some (.ref (ga K x))))
def qFree (x : Str) (K : PySem.W.Frag) : Bool := eqO (PySem.W.nsIn K mainGlobals x) (some none)
def qInt (x : Str) (i : Int) (K : PySem.W.Frag) : Bool := (He.Fa.int x i).ok K
def qStr (x z : Str) (K : PySem.W.Frag) : Bool := (He.Fa.str x z).ok K
def qTup (x : Str) (vs : List Dv) (K : PySem.W.Frag) : Bool := qGlo x K && tupB K x vs
/-- a table text -> number -/
def pairB : List (Str × Int) → List DictEntry → Bool
  | [], [] => true
  | kv :: r, e :: s => (match e.key with
    | .str z _ => decide (z = kv.1)
    | _ => false) && ((match e.val with
    | .int i _ => decide (i = kv.2)
    | _ => false) && pairB r s)
  | _, _ => false
def qDic (x : Str) (kvs : List (Str × Int)) (K : PySem.W.Frag) : Bool := qGlo x K && ((match K.lookup (ga K x) with
  | some ⟨_, _, .dict es _, _⟩ => pairB kvs es.toList
  | _ => false) && He.valsB K (ga K x) (kvs.map fun kv => (kv.1, Dv.int kv.2)))
/-- an own class -/
def qCls (x : Str) (K : PySem.W.Frag) : Bool := (He.Fa.cls x).ok K
def qNo (x f : Str) (K : PySem.W.Frag) : Bool := (He.Fa.noat x f).ok K
def qMk (x : Str) (K : PySem.W.Frag) : Bool := (He.Fa.mkr x).ok K
def qMe (x f : Str) (K : PySem.W.Frag) : Bool := (He.Fa.meth x f).ok K
def qKI (x : Str) (K : PySem.W.Frag) : Bool := qCls x K && (eqO (PySem.W.findIn K (.ref (ga K x)) "__class__") (some (some (.builtin "object.__class__"))) && (eqO (PySem.W.specialIn K (.builtin "object.__class__") "__get__") (some (some (.builtin "getset_descriptor.__get__"))) &&
  (decide (PySem.W.takesIn K (.builtin "object.__class__") = some true) && decide (PySem.W.mroIn K (ga K x) (.type "object") = some true))))
def tyN : List String := ["NoneType", "bool", "int", "str", "tuple", "list", "dict"]
def qKi0 (x : Str) (K : PySem.W.Frag) : Bool := tyN.all fun m => decide (PySem.W.kitOne K (.type m) (.ref (ga K x)) = some false)
def qKit (x y : Str) (K : PySem.W.Frag) : Bool := decide (PySem.W.kitOne K (.ref (ga K x)) (.ref (ga K y)) = some true)
def qExm (x y : Str) (K : PySem.W.Frag) : Bool := decide (PySem.W.exmOne K (.ref (ga K x)) (.ref (ga K y)) = some true)
def qExs (x : Str) (ys : List Str) (K : PySem.W.Frag) : Bool := decide (PySem.W.exmAny K (.ref (ga K x)) (ys.map fun y => .ref (ga K y)) = some true)
/-- a method by its class alone -/
def qFn (x f : Str) (K : PySem.W.Frag) : Bool := eqO (PySem.W.findIn K (.ref (ga K x)) f) (some (some (.ref (fAd K (x, some f))))) && PySem.W.isFn K (.ref (fAd K (x, some f)))
/-- a property -/
def qPr (x f : Str) (K : PySem.W.Frag) : Bool := eqO (PySem.W.findIn K (.ref (ga K x)) f) (some (some (.ref (ma K (ga K x) f)))) && (eqO (PySem.W.specialIn K (.ref (ma K (ga K x) f)) "__get__") (some (some (.builtin "property.__get__"))) &&
  (decide (PySem.W.takesIn K (.ref (ma K (ga K x) f)) = some true) && (match PySem.W.recIn K (ma K (ga K x) f) "property" with
  | some (.ref _ :: _) => true
  | _ => false)))
/-- an own exception class whose base among the built-in ones is B -/
def bmOf (B : String) : List Value := [.type B, .type "Exception", .type "BaseException", .type "object"]
def qExc (x : Str) (B newId : String) (K : PySem.W.Frag) : Bool := PySem.W.excInitIn K (ga K x) (bmOf B) newId && (PySem.W.excOver K (ga K x) (bmOf B) && (((PySem.W.clsIn K (ga K x)).any fun cd => cd.hasDict) && (eqO (PySem.W.findIn K (.ref (ga K x)) "__setattr__") (some (some (.builtin "object.__setattr__"))) &&
  (decide (PySem.W.subIn K (.ref (ga K x)) (.type "BaseException") = some true) && (decide (PySem.W.typeIn K (.ref (ga K x)) = some (.type "type")) && (PySem.W.keepIn K (.ref (ga K x)) && qFn x "__init__" K))))))
def qTk (x f : Str) (K : PySem.W.Frag) : Bool := decide (PySem.W.takerIn K (ga K x) f = some none)
/-- the def's first default is the empty tuple -/
def qDfT (p : Str × Option Str) (K : PySem.W.Frag) : Bool := match K.lookup (He.dflAt p 0 K) with
  | some ⟨.type c, _, .seq its _, _⟩ => decide (c = "tuple") && its.isEmpty
  | _ => false
/-- the tables of two defs are two -/
def qNe (p q : Defn) (K : PySem.W.Frag) : Bool := !decide ((cT K p).2 = (cT K q).2)
end
end Qh
end
section
set_option maxRecDepth 100000
/-! The text by places. Printed by asm.py. -/
namespace TP
open PySem PySem.Spec PyProof.Rows L2
def top (i : Nat) : Stmt := PySem.Challenge.pw_touchpasses_k64_desks_undone.main.body.getD i (.Pass ⟨0, 0, 0, 0⟩)
abbrev s_InvalidText___init__ : Stmt := inClass (top 5) 0
abbrev s_InvalidLength___init__ : Stmt := inClass (top 6) 0
abbrev s_InvalidPass___init__ : Stmt := inClass (top 7) 0
abbrev s_InvalidPlace___init__ : Stmt := inClass (top 8) 0
abbrev s_InvalidChange___init__ : Stmt := inClass (top 9) 0
abbrev s_InvalidWish___init__ : Stmt := inClass (top 10) 0
abbrev s_InvalidIndex___init__ : Stmt := inClass (top 11) 0
abbrev s_NotATrack___init__ : Stmt := inClass (top 12) 0
abbrev s_InvalidPasses___init__ : Stmt := inClass (top 13) 0
abbrev s_UnknownName___init__ : Stmt := inClass (top 14) 0
abbrev s_NothingToUndo___init__ : Stmt := inClass (top 15) 0
abbrev s_TooMany___init__ : Stmt := inClass (top 16) 0
abbrev s_Broken___init__ : Stmt := inClass (top 17) 0
abbrev s_is_whole : Stmt := top 29
abbrev s_is_integer : Stmt := top 30
abbrev s_is_name : Stmt := top 31
abbrev s_written : Stmt := top 32
abbrev s_is_tuple_of : Stmt := top 33
abbrev s_is_stretch : Stmt := top 34
abbrev s_common : Stmt := top 35
abbrev s_lowest : Stmt := top 36
abbrev s_minus : Stmt := top 37
abbrev s_times : Stmt := top 38
abbrev s_is_more : Stmt := top 39
abbrev s_is_limit : Stmt := top 40
abbrev s_longest : Stmt := top 41
abbrev s_are_touches : Stmt := top 48
abbrev s_is_word : Stmt := top 49
abbrev s_is_pass : Stmt := top 50
abbrev s_row_of : Stmt := top 51
abbrev s_touch_of : Stmt := top 52
abbrev s_pass_of : Stmt := top 53
abbrev s_Track___init__ : Stmt := inClass (top 54) 0
abbrev s_Track_read : Stmt := inClass (top 54) 1
abbrev s_Track_length : Stmt := inClass (top 54) 2
abbrev s_Track_passes : Stmt := inClass (top 54) 3
abbrev s_Track_names : Stmt := inClass (top 54) 4
abbrev s_Track___len__ : Stmt := inClass (top 54) 5
abbrev s_Track___bool__ : Stmt := inClass (top 54) 6
abbrev s_Track___iter__ : Stmt := inClass (top 54) 7
abbrev s_Track___contains__ : Stmt := inClass (top 54) 8
abbrev s_Track___getitem__ : Stmt := inClass (top 54) 9
abbrev s_Track___str__ : Stmt := inClass (top 54) 10
abbrev s_Track___eq__ : Stmt := inClass (top 54) 11
abbrev s_Track_put : Stmt := inClass (top 54) 12
abbrev s_Track_without : Stmt := inClass (top 54) 13
abbrev s_Track_moved : Stmt := inClass (top 54) 14
abbrev s_Track_changed : Stmt := inClass (top 54) 15
abbrev s_index_of : Stmt := top 55
abbrev s_is_change : Stmt := top 56
abbrev s_with_changes : Stmt := top 57
abbrev s_check_track : Stmt := top 58
abbrev s_Part___init__ : Stmt := inClass (top 60) 0
abbrev s_Part_cut : Stmt := inClass (top 60) 1
abbrev s_Part_at : Stmt := inClass (top 60) 2
abbrev s_Zone___init__ : Stmt := inClass (top 61) 0
abbrev s_glide_zones : Stmt := top 62
abbrev s_zones_of : Stmt := top 63
abbrev s_spot_of : Stmt := top 64
abbrev s_between : Stmt := top 65
abbrev s_part_at : Stmt := top 66
abbrev s_behind_zone : Stmt := top 67
abbrev s_behind : Stmt := top 68
abbrev s_parts_of : Stmt := top 69
abbrev s_single : Stmt := top 70
abbrev s_is_now : Stmt := top 71
abbrev s_joined : Stmt := top 72
abbrev s_runs_of : Stmt := top 73
abbrev s_told : Stmt := top 74
abbrev s_pieces_of : Stmt := top 75
abbrev s_form_of : Stmt := top 76
abbrev s_difference : Stmt := top 78
abbrev s_steps_of : Stmt := top 79
abbrev s_sudden_of : Stmt := top 80
abbrev s_are_alike : Stmt := top 82
abbrev s_heard_of : Stmt := top 84
abbrev s_is_kept : Stmt := top 85
abbrev s_kept_of : Stmt := top 86
abbrev s_track_of : Stmt := top 88
abbrev s_has_words : Stmt := top 89
abbrev s_is_wish : Stmt := top 90
abbrev s_is_within : Stmt := top 91
abbrev s_other_tick : Stmt := top 92
abbrev s_does_hold : Stmt := top 93
abbrev s_check_wish : Stmt := top 94
abbrev s_Desk___init__ : Stmt := inClass (top 96) 0
abbrev s_Desk_track : Stmt := inClass (top 96) 1
abbrev s_Desk_promises : Stmt := inClass (top 96) 2
abbrev s_Desk_changes : Stmt := inClass (top 96) 3
abbrev s_Desk___len__ : Stmt := inClass (top 96) 4
abbrev s_Desk___bool__ : Stmt := inClass (top 96) 5
abbrev s_Desk___iter__ : Stmt := inClass (top 96) 6
abbrev s_Desk_become : Stmt := inClass (top 96) 7
abbrev s_Desk_put : Stmt := inClass (top 96) 8
abbrev s_Desk_take : Stmt := inClass (top 96) 9
abbrev s_Desk_move : Stmt := inClass (top 96) 10
abbrev s_Desk_change : Stmt := inClass (top 96) 11
abbrev s_Desk_promise : Stmt := inClass (top 96) 12
abbrev s_Desk_lift : Stmt := inClass (top 96) 13
abbrev s_Desk_undo : Stmt := inClass (top 96) 14
abbrev s_Desk_trial : Stmt := inClass (top 96) 15
abbrev s_Desk_tried : Stmt := inClass (top 96) 16
abbrev s_law_purse : Stmt := top 98
abbrev s_law_take : Stmt := top 99
abbrev s_law_one : Stmt := top 100
abbrev s_law_names : Stmt := top 101
abbrev s_law_touches : Stmt := top 102
abbrev s_law_pass : Stmt := top 103
abbrev s_law_row : Stmt := top 104
abbrev s_law_seen : Stmt := top 105
abbrev s_law_promise : Stmt := top 106
abbrev s_law_step : Stmt := top 107
abbrev s_law_is_refused : Stmt := top 108
abbrev s_law_refused_right : Stmt := top 109
abbrev s_law_back_right : Stmt := top 110
abbrev s_law_right : Stmt := top 111
abbrev s_law : Stmt := top 112
end TP
end
section
set_option maxRecDepth 100000
set_option maxHeartbeats 0
/-! The head: what is asked of it; the top by one run over the heap as a tree. Printed by close.py. -/
namespace TP
open PySem PySem.Spec PyProof.Rows L2 Qh
open He (ga ma fAd dflAt cT Tab Defn Dv)
def dsL0 : List Dq := [
  ⟨fun K => fAd K ("_law_take", none), "_law_take", "_law_take", defArgs s_law_take, defBody s_law_take, defScope s_law_take, []⟩,
  ⟨fun K => fAd K ("_law_one", none), "_law_one", "_law_one", defArgs s_law_one, defBody s_law_one, defScope s_law_one, []⟩,
  ⟨fun K => fAd K ("_law_names", none), "_law_names", "_law_names", defArgs s_law_names, defBody s_law_names, defScope s_law_names, []⟩,
  ⟨fun K => fAd K ("is_whole", none), "is_whole", "is_whole", defArgs s_is_whole, defBody s_is_whole, defScope s_is_whole, []⟩,
  ⟨fun K => fAd K ("is_integer", none), "is_integer", "is_integer", defArgs s_is_integer, defBody s_is_integer, defScope s_is_integer, []⟩,
  ⟨fun K => fAd K ("is_tuple_of", none), "is_tuple_of", "is_tuple_of", defArgs s_is_tuple_of, defBody s_is_tuple_of, defScope s_is_tuple_of, []⟩,
  ⟨fun K => fAd K ("is_name", none), "is_name", "is_name", defArgs s_is_name, defBody s_is_name, defScope s_is_name, []⟩,
  ⟨fun K => fAd K ("is_word", none), "is_word", "is_word", defArgs s_is_word, defBody s_is_word, defScope s_is_word, []⟩,
  ⟨fun K => fAd K ("is_stretch", none), "is_stretch", "is_stretch", defArgs s_is_stretch, defBody s_is_stretch, defScope s_is_stretch, []⟩,
  ⟨fun K => fAd K ("are_touches", none), "are_touches", "are_touches", defArgs s_are_touches, defBody s_are_touches, defScope s_are_touches, []⟩,
  ⟨fun K => fAd K ("is_pass", none), "is_pass", "is_pass", defArgs s_is_pass, defBody s_is_pass, defScope s_is_pass, []⟩,
  ⟨fun K => fAd K ("InvalidLength", some "__init__"), "__init__", "InvalidLength.__init__", defArgs s_InvalidLength___init__, defBody s_InvalidLength___init__, defScope s_InvalidLength___init__, []⟩,
  ⟨fun K => fAd K ("InvalidPasses", some "__init__"), "__init__", "InvalidPasses.__init__", defArgs s_InvalidPasses___init__, defBody s_InvalidPasses___init__, defScope s_InvalidPasses___init__, []⟩,
  ⟨fun K => fAd K ("Track", some "__init__"), "__init__", "Track.__init__", defArgs s_Track___init__, defBody s_Track___init__, defScope s_Track___init__, [.adr (dflAt ("Track", some "__init__") 0)]⟩,
  ⟨fun K => fAd K ("NotATrack", some "__init__"), "__init__", "NotATrack.__init__", defArgs s_NotATrack___init__, defBody s_NotATrack___init__, defScope s_NotATrack___init__, []⟩,
  ⟨fun K => fAd K ("check_track", none), "check_track", "check_track", defArgs s_check_track, defBody s_check_track, defScope s_check_track, []⟩,
  ⟨fun K => fAd K ("Desk", some "__init__"), "__init__", "Desk.__init__", defArgs s_Desk___init__, defBody s_Desk___init__, defScope s_Desk___init__, []⟩,
  ⟨fun K => fAd K ("row_of", none), "row_of", "row_of", defArgs s_row_of, defBody s_row_of, defScope s_row_of, []⟩,
  ⟨fun K => fAd K ("Track", some "__str__"), "__str__", "Track.__str__", defArgs s_Track___str__, defBody s_Track___str__, defScope s_Track___str__, []⟩,
  ⟨fun K => gAd "Desk" "track" K, "track", "Desk.track", defArgs s_Desk_track, defBody s_Desk_track, defScope s_Desk_track, []⟩,
  ⟨fun K => gAd "Desk" "promises" K, "promises", "Desk.promises", defArgs s_Desk_promises, defBody s_Desk_promises, defScope s_Desk_promises, []⟩,
  ⟨fun K => gAd "Desk" "changes" K, "changes", "Desk.changes", defArgs s_Desk_changes, defBody s_Desk_changes, defScope s_Desk_changes, []⟩,
  ⟨fun K => gAd "Track" "passes" K, "passes", "Track.passes", defArgs s_Track_passes, defBody s_Track_passes, defScope s_Track_passes, []⟩,
  ⟨fun K => fAd K ("Desk", some "__len__"), "__len__", "Desk.__len__", defArgs s_Desk___len__, defBody s_Desk___len__, defScope s_Desk___len__, []⟩]
def dsL1 : List Dq := [
  ⟨fun K => fAd K ("Desk", some "__bool__"), "__bool__", "Desk.__bool__", defArgs s_Desk___bool__, defBody s_Desk___bool__, defScope s_Desk___bool__, []⟩,
  ⟨fun K => gAd "Track" "names" K, "names", "Track.names", defArgs s_Track_names, defBody s_Track_names, defScope s_Track_names, []⟩,
  ⟨fun K => fAd K ("_law_seen", none), "_law_seen", "_law_seen", defArgs s_law_seen, defBody s_law_seen, defScope s_law_seen, []⟩,
  ⟨fun K => fAd K ("_law_touches", none), "_law_touches", "_law_touches", defArgs s_law_touches, defBody s_law_touches, defScope s_law_touches, []⟩,
  ⟨fun K => fAd K ("_law_pass", none), "_law_pass", "_law_pass", defArgs s_law_pass, defBody s_law_pass, defScope s_law_pass, []⟩,
  ⟨fun K => fAd K ("_law_promise", none), "_law_promise", "_law_promise", defArgs s_law_promise, defBody s_law_promise, defScope s_law_promise, []⟩,
  ⟨fun K => fAd K ("Track", some "__contains__"), "__contains__", "Track.__contains__", defArgs s_Track___contains__, defBody s_Track___contains__, defScope s_Track___contains__, []⟩,
  ⟨fun K => fAd K ("told", none), "told", "told", defArgs s_told, defBody s_told, defScope s_told, []⟩,
  ⟨fun K => fAd K ("Part", some "at"), "at", "Part.at", defArgs s_Part_at, defBody s_Part_at, defScope s_Part_at, []⟩,
  ⟨fun K => fAd K ("spot_of", none), "spot_of", "spot_of", defArgs s_spot_of, defBody s_spot_of, defScope s_spot_of, []⟩,
  ⟨fun K => fAd K ("part_at", none), "part_at", "part_at", defArgs s_part_at, defBody s_part_at, defScope s_part_at, []⟩,
  ⟨fun K => fAd K ("Part", some "__init__"), "__init__", "Part.__init__", defArgs s_Part___init__, defBody s_Part___init__, defScope s_Part___init__, []⟩,
  ⟨fun K => gAd "Track" "length" K, "length", "Track.length", defArgs s_Track_length, defBody s_Track_length, defScope s_Track_length, []⟩,
  ⟨fun K => fAd K ("Zone", some "__init__"), "__init__", "Zone.__init__", defArgs s_Zone___init__, defBody s_Zone___init__, defScope s_Zone___init__, []⟩,
  ⟨fun K => fAd K ("common", none), "common", "common", defArgs s_common, defBody s_common, defScope s_common, []⟩,
  ⟨fun K => fAd K ("lowest", none), "lowest", "lowest", defArgs s_lowest, defBody s_lowest, defScope s_lowest, []⟩,
  ⟨fun K => fAd K ("glide_zones", none), "glide_zones", "glide_zones", defArgs s_glide_zones, defBody s_glide_zones, defScope s_glide_zones, []⟩,
  ⟨fun K => fAd K ("zones_of", none), "zones_of", "zones_of", defArgs s_zones_of, defBody s_zones_of, defScope s_zones_of, []⟩,
  ⟨fun K => fAd K ("Part", some "cut"), "cut", "Part.cut", defArgs s_Part_cut, defBody s_Part_cut, defScope s_Part_cut, []⟩,
  ⟨fun K => fAd K ("between", none), "between", "between", defArgs s_between, defBody s_between, defScope s_between, []⟩,
  ⟨fun K => fAd K ("minus", none), "minus", "minus", defArgs s_minus, defBody s_minus, defScope s_minus, []⟩,
  ⟨fun K => fAd K ("times", none), "times", "times", defArgs s_times, defBody s_times, defScope s_times, []⟩,
  ⟨fun K => fAd K ("behind_zone", none), "behind_zone", "behind_zone", defArgs s_behind_zone, defBody s_behind_zone, defScope s_behind_zone, []⟩,
  ⟨fun K => fAd K ("behind", none), "behind", "behind", defArgs s_behind, defBody s_behind, defScope s_behind, []⟩]
def dsL2 : List Dq := [
  ⟨fun K => fAd K ("parts_of", none), "parts_of", "parts_of", defArgs s_parts_of, defBody s_parts_of, defScope s_parts_of, []⟩,
  ⟨fun K => fAd K ("form_of", none), "form_of", "form_of", defArgs s_form_of, defBody s_form_of, defScope s_form_of, []⟩,
  ⟨fun K => fAd K ("single", none), "single", "single", defArgs s_single, defBody s_single, defScope s_single, []⟩,
  ⟨fun K => fAd K ("other_tick", none), "other_tick", "other_tick", defArgs s_other_tick, defBody s_other_tick, defScope s_other_tick, []⟩,
  ⟨fun K => fAd K ("is_more", none), "is_more", "is_more", defArgs s_is_more, defBody s_is_more, defScope s_is_more, []⟩,
  ⟨fun K => fAd K ("difference", none), "difference", "difference", defArgs s_difference, defBody s_difference, defScope s_difference, []⟩,
  ⟨fun K => fAd K ("steps_of", none), "steps_of", "steps_of", defArgs s_steps_of, defBody s_steps_of, defScope s_steps_of, []⟩,
  ⟨fun K => fAd K ("sudden_of", none), "sudden_of", "sudden_of", defArgs s_sudden_of, defBody s_sudden_of, defScope s_sudden_of, []⟩,
  ⟨fun K => fAd K ("does_hold", none), "does_hold", "does_hold", defArgs s_does_hold, defBody s_does_hold, defScope s_does_hold, []⟩,
  ⟨fun K => fAd K ("Broken", some "__init__"), "__init__", "Broken.__init__", defArgs s_Broken___init__, defBody s_Broken___init__, defScope s_Broken___init__, []⟩,
  ⟨fun K => fAd K ("Desk", some "become"), "become", "Desk.become", defArgs s_Desk_become, defBody s_Desk_become, defScope s_Desk_become, []⟩,
  ⟨fun K => fAd K ("InvalidPass", some "__init__"), "__init__", "InvalidPass.__init__", defArgs s_InvalidPass___init__, defBody s_InvalidPass___init__, defScope s_InvalidPass___init__, []⟩,
  ⟨fun K => fAd K ("InvalidPlace", some "__init__"), "__init__", "InvalidPlace.__init__", defArgs s_InvalidPlace___init__, defBody s_InvalidPlace___init__, defScope s_InvalidPlace___init__, []⟩,
  ⟨fun K => fAd K ("TooMany", some "__init__"), "__init__", "TooMany.__init__", defArgs s_TooMany___init__, defBody s_TooMany___init__, defScope s_TooMany___init__, []⟩,
  ⟨fun K => fAd K ("Track", some "put"), "put", "Track.put", defArgs s_Track_put, defBody s_Track_put, defScope s_Track_put, [.non]⟩,
  ⟨fun K => fAd K ("Desk", some "put"), "put", "Desk.put", defArgs s_Desk_put, defBody s_Desk_put, defScope s_Desk_put, [.non]⟩,
  ⟨fun K => fAd K ("UnknownName", some "__init__"), "__init__", "UnknownName.__init__", defArgs s_UnknownName___init__, defBody s_UnknownName___init__, defScope s_UnknownName___init__, []⟩,
  ⟨fun K => fAd K ("index_of", none), "index_of", "index_of", defArgs s_index_of, defBody s_index_of, defScope s_index_of, []⟩,
  ⟨fun K => fAd K ("Track", some "without"), "without", "Track.without", defArgs s_Track_without, defBody s_Track_without, defScope s_Track_without, []⟩,
  ⟨fun K => fAd K ("Desk", some "take"), "take", "Desk.take", defArgs s_Desk_take, defBody s_Desk_take, defScope s_Desk_take, []⟩,
  ⟨fun K => fAd K ("Track", some "moved"), "moved", "Track.moved", defArgs s_Track_moved, defBody s_Track_moved, defScope s_Track_moved, []⟩,
  ⟨fun K => fAd K ("Desk", some "move"), "move", "Desk.move", defArgs s_Desk_move, defBody s_Desk_move, defScope s_Desk_move, []⟩,
  ⟨fun K => fAd K ("is_change", none), "is_change", "is_change", defArgs s_is_change, defBody s_is_change, defScope s_is_change, []⟩,
  ⟨fun K => fAd K ("with_changes", none), "with_changes", "with_changes", defArgs s_with_changes, defBody s_with_changes, defScope s_with_changes, []⟩]
def dsL3 : List Dq := [
  ⟨fun K => fAd K ("InvalidChange", some "__init__"), "__init__", "InvalidChange.__init__", defArgs s_InvalidChange___init__, defBody s_InvalidChange___init__, defScope s_InvalidChange___init__, []⟩,
  ⟨fun K => fAd K ("Track", some "changed"), "changed", "Track.changed", defArgs s_Track_changed, defBody s_Track_changed, defScope s_Track_changed, []⟩,
  ⟨fun K => fAd K ("Desk", some "change"), "change", "Desk.change", defArgs s_Desk_change, defBody s_Desk_change, defScope s_Desk_change, []⟩,
  ⟨fun K => fAd K ("InvalidIndex", some "__init__"), "__init__", "InvalidIndex.__init__", defArgs s_InvalidIndex___init__, defBody s_InvalidIndex___init__, defScope s_InvalidIndex___init__, []⟩,
  ⟨fun K => fAd K ("Desk", some "lift"), "lift", "Desk.lift", defArgs s_Desk_lift, defBody s_Desk_lift, defScope s_Desk_lift, []⟩,
  ⟨fun K => fAd K ("has_words", none), "has_words", "has_words", defArgs s_has_words, defBody s_has_words, defScope s_has_words, []⟩,
  ⟨fun K => fAd K ("is_limit", none), "is_limit", "is_limit", defArgs s_is_limit, defBody s_is_limit, defScope s_is_limit, []⟩,
  ⟨fun K => fAd K ("is_wish", none), "is_wish", "is_wish", defArgs s_is_wish, defBody s_is_wish, defScope s_is_wish, []⟩,
  ⟨fun K => fAd K ("InvalidWish", some "__init__"), "__init__", "InvalidWish.__init__", defArgs s_InvalidWish___init__, defBody s_InvalidWish___init__, defScope s_InvalidWish___init__, []⟩,
  ⟨fun K => fAd K ("check_wish", none), "check_wish", "check_wish", defArgs s_check_wish, defBody s_check_wish, defScope s_check_wish, []⟩,
  ⟨fun K => fAd K ("Desk", some "promise"), "promise", "Desk.promise", defArgs s_Desk_promise, defBody s_Desk_promise, defScope s_Desk_promise, []⟩,
  ⟨fun K => fAd K ("_law_step", none), "_law_step", "_law_step", defArgs s_law_step, defBody s_law_step, defScope s_law_step, []⟩,
  ⟨fun K => fAd K ("_law_refused_right", none), "_law_refused_right", "_law_refused_right", defArgs s_law_refused_right, defBody s_law_refused_right, defScope s_law_refused_right, []⟩,
  ⟨fun K => fAd K ("NothingToUndo", some "__init__"), "__init__", "NothingToUndo.__init__", defArgs s_NothingToUndo___init__, defBody s_NothingToUndo___init__, defScope s_NothingToUndo___init__, []⟩,
  ⟨fun K => fAd K ("Desk", some "undo"), "undo", "Desk.undo", defArgs s_Desk_undo, defBody s_Desk_undo, defScope s_Desk_undo, []⟩,
  ⟨fun K => fAd K ("_law_back_right", none), "_law_back_right", "_law_back_right", defArgs s_law_back_right, defBody s_law_back_right, defScope s_law_back_right, []⟩,
  ⟨fun K => fAd K ("_law_right", none), "_law_right", "_law_right", defArgs s_law_right, defBody s_law_right, defScope s_law_right, []⟩,
  ⟨fun K => fAd K ("_law_purse", none), "_law_purse", "_law_purse", defArgs s_law_purse, defBody s_law_purse, defScope s_law_purse, []⟩,
  ⟨fun K => fAd K ("law", none), "law", "law", defArgs s_law, defBody s_law, defScope s_law, []⟩,
  ⟨fun K => fAd K ("_law_is_refused", none), "_law_is_refused", "_law_is_refused", defArgs s_law_is_refused, defBody s_law_is_refused, defScope s_law_is_refused, []⟩]
def dsL : List Dq := dsL0 ++ (dsL1 ++ (dsL2 ++ (dsL3)))
def exL0 : List (PySem.W.Frag → Bool) := [
  qFree "ArithmeticError",
  qFree "LookupError",
  qFree "TypeError",
  qFree "ValueError",
  qFree "abs",
  qFree "all",
  qFree "any",
  qFree "bool",
  qFree "divmod",
  qFree "enumerate",
  qFree "int",
  qFree "isinstance",
  qFree "len",
  qFree "list",
  qFree "max",
  qFree "min",
  qFree "range",
  qFree "repr",
  qFree "sorted",
  qFree "str",
  qFree "tuple",
  qFree "zip",
  qInt "MOST_LENGTH" 1000000000000,
  qInt "MOST_PASSES" 8]
def exL1 : List (PySem.W.Frag → Bool) := [
  qInt "MOST_TOUCHES" 6,
  qInt "MOST_GLIDE" 100,
  qStr "LETTERS" "abcdefghijklmnopqrstuvwxyz",
  qStr "DIGITS" "0123456789",
  qInt "LONGEST_NAME" 8,
  qInt "LONGEST_NUMBER" 13,
  qTup "ONE" [.int 1, .int 1],
  qTup "ZERO" [.int 0, .int 1],
  qStr "OLD" "old",
  qTup "MODES" [.str "write", .str "latch", .str "touch", .str "trim"],
  qTup "TAILS" [.str "stop", .str "on"],
  qDic "PARTS" [("mode", 1), ("from", 2), ("to", 3), ("touches", 4), ("glide", 5), ("tail", 6)],
  qInt "PASS_PARTS" 7,
  qGlo "BadValue",
  qGlo "BadName",
  qGlo "NoAnswer",
  qGlo "InvalidText",
  qGlo "InvalidLength",
  qGlo "InvalidPass",
  qGlo "InvalidPlace",
  qGlo "InvalidChange",
  qGlo "InvalidWish",
  qGlo "InvalidIndex",
  qGlo "NotATrack"]
def exL2 : List (PySem.W.Frag → Bool) := [
  qGlo "InvalidPasses",
  qGlo "UnknownName",
  qGlo "NothingToUndo",
  qGlo "TooMany",
  qGlo "Broken",
  qGlo "Track",
  qKI "Track",
  qCls "Track",
  qKi0 "Track",
  qNo "Track" "held_length",
  qNo "Track" "held_passes",
  qGlo "Part",
  qKI "Part",
  qCls "Part",
  qKi0 "Part",
  qNo "Part" "first",
  qNo "Part" "end",
  qNo "Part" "terms",
  qGlo "Zone",
  qKI "Zone",
  qCls "Zone",
  qKi0 "Zone",
  qNo "Zone" "first",
  qNo "Zone" "end"]
def exL3 : List (PySem.W.Frag → Bool) := [
  qNo "Zone" "word",
  qNo "Zone" "place",
  qNo "Zone" "weight",
  qGlo "Desk",
  qKI "Desk",
  qCls "Desk",
  qKi0 "Desk",
  qNo "Desk" "held",
  qNo "Desk" "past",
  qExm "NothingToUndo" "NothingToUndo",
  qGlo "_law_take",
  qGlo "_law_one",
  qGlo "_law_names",
  qMk "Track",
  qGlo "is_whole",
  qGlo "is_integer",
  qGlo "is_tuple_of",
  qGlo "is_name",
  qGlo "is_word",
  qGlo "is_stretch",
  qGlo "are_touches",
  qGlo "is_pass",
  qExc "InvalidLength" "ValueError" "ValueError.__new__",
  qTk "InvalidLength" "given"]
def exL4 : List (PySem.W.Frag → Bool) := [
  qExc "InvalidPasses" "ValueError" "ValueError.__new__",
  qTk "InvalidPasses" "index",
  qDfT ("Track", some "__init__"),
  qMk "Desk",
  qKit "Track" "Track",
  qExc "NotATrack" "ValueError" "ValueError.__new__",
  qTk "NotATrack" "given",
  qGlo "check_track",
  qGlo "row_of",
  qFn "Track" "__str__",
  qPr "Desk" "track",
  qPr "Desk" "promises",
  qPr "Desk" "changes",
  qPr "Track" "passes",
  qFn "Desk" "__len__",
  qFn "Desk" "__bool__",
  qPr "Track" "names",
  qGlo "_law_seen",
  qGlo "_law_touches",
  qGlo "_law_pass",
  qGlo "_law_promise",
  qMe "Desk" "put",
  qMe "Desk" "become",
  qFn "Track" "__contains__"]
def exL5 : List (PySem.W.Frag → Bool) := [
  qGlo "told",
  qMe "Part" "at",
  qGlo "spot_of",
  qGlo "part_at",
  qMk "Part",
  qPr "Track" "length",
  qMk "Zone",
  qGlo "common",
  qGlo "lowest",
  qGlo "glide_zones",
  qGlo "zones_of",
  qMe "Part" "cut",
  qGlo "between",
  qGlo "minus",
  qGlo "times",
  qGlo "behind_zone",
  qGlo "behind",
  qGlo "parts_of",
  qGlo "form_of",
  qGlo "single",
  qGlo "other_tick",
  qGlo "is_more",
  qGlo "difference",
  qGlo "steps_of"]
def exL6 : List (PySem.W.Frag → Bool) := [
  qGlo "sudden_of",
  qGlo "does_hold",
  qExc "Broken" "ArithmeticError" "ArithmeticError.__new__",
  qTk "Broken" "index",
  qMe "Track" "put",
  qExc "InvalidPass" "ValueError" "ValueError.__new__",
  qTk "InvalidPass" "given",
  qExc "InvalidPlace" "ValueError" "ValueError.__new__",
  qTk "InvalidPlace" "given",
  qExc "TooMany" "ArithmeticError" "ArithmeticError.__new__",
  qTk "TooMany" "most",
  qMe "Desk" "take",
  qMe "Track" "without",
  qExc "UnknownName" "LookupError" "LookupError.__new__",
  qTk "UnknownName" "given",
  qGlo "index_of",
  qMe "Desk" "move",
  qMe "Track" "moved",
  qMe "Desk" "change",
  qMe "Track" "changed",
  qGlo "is_change",
  qGlo "with_changes",
  qExc "InvalidChange" "ValueError" "ValueError.__new__",
  qTk "InvalidChange" "given"]
def exL7 : List (PySem.W.Frag → Bool) := [
  qMe "Desk" "lift",
  qExc "InvalidIndex" "ValueError" "ValueError.__new__",
  qTk "InvalidIndex" "given",
  qMe "Desk" "promise",
  qGlo "has_words",
  qGlo "is_limit",
  qGlo "is_wish",
  qExc "InvalidWish" "ValueError" "ValueError.__new__",
  qTk "InvalidWish" "given",
  qGlo "check_wish",
  qGlo "_law_step",
  qGlo "_law_refused_right",
  qMe "Desk" "undo",
  qExc "NothingToUndo" "ArithmeticError" "ArithmeticError.__new__",
  qGlo "_law_back_right",
  qGlo "_law_right",
  qGlo "_law_purse",
  qGlo "_law_is_refused",
  qExs "InvalidIndex" ["BadValue", "BadName", "NoAnswer"],
  qExs "UnknownName" ["BadValue", "BadName", "NoAnswer"],
  qExs "InvalidPass" ["BadValue", "BadName", "NoAnswer"],
  qExs "InvalidChange" ["BadValue", "BadName", "NoAnswer"],
  qExs "InvalidWish" ["BadValue", "BadName", "NoAnswer"],
  qExs "Broken" ["BadValue", "BadName", "NoAnswer"]]
def exL8 : List (PySem.W.Frag → Bool) := [
  qNe ("_law_refused_right", none) ("told", none),
  qGlo "law"]
def exL : List (PySem.W.Frag → Bool) := exL0 ++ (exL1 ++ (exL2 ++ (exL3 ++ (exL4 ++ (exL5 ++ (exL6 ++ (exL7 ++ (exL8))))))))
def tsL : List Tab := [(fun K => ga K "PARTS", ["mode", "from", "to", "touches", "glide", "tail"])]
def tfL : List Defn := [("told", none), ("_law_refused_right", none)]
abbrev R : PySem.W.OpenRow := PySem.W.OpenLaw.row PySem.Challenge.rw_touchpasses_k64_desks_undone
abbrev qv : Program := PySem.W.view R.prog [112]
def nm0 : List PySem.Str := ["_wall", "BadValue", "BadName", "NoAnswer", "InvalidText", "InvalidLength"]
def nm1 : List PySem.Str := ["InvalidPass", "InvalidPlace", "InvalidChange", "InvalidWish", "InvalidIndex", "NotATrack"]
def nm2 : List PySem.Str := ["InvalidPasses", "UnknownName", "NothingToUndo", "TooMany", "Broken", "MOST_LENGTH"]
def nm3 : List PySem.Str := ["MOST_PASSES", "MOST_TOUCHES", "MOST_GLIDE", "LETTERS", "DIGITS", "LONGEST_NAME"]
def nm4 : List PySem.Str := ["LONGEST_NUMBER", "ONE", "ZERO", "is_whole", "is_integer", "is_name"]
def nm5 : List PySem.Str := ["written", "is_tuple_of", "is_stretch", "common", "lowest", "minus"]
def nm6 : List PySem.Str := ["times", "is_more", "is_limit", "longest", "OLD", "MODES"]
def nm7 : List PySem.Str := ["TAILS", "PARTS", "PASS_PARTS", "are_touches", "is_word", "is_pass"]
def nm8 : List PySem.Str := ["row_of", "touch_of", "pass_of", "Track", "index_of", "is_change"]
def nm9 : List PySem.Str := ["with_changes", "check_track", "Part", "Zone", "glide_zones", "zones_of"]
def nm10 : List PySem.Str := ["spot_of", "between", "part_at", "behind_zone", "behind", "parts_of"]
def nm11 : List PySem.Str := ["single", "is_now", "joined", "runs_of", "told", "pieces_of"]
def nm12 : List PySem.Str := ["form_of", "difference", "steps_of", "sudden_of", "are_alike", "heard_of"]
def nm13 : List PySem.Str := ["is_kept", "kept_of", "track_of", "has_words", "is_wish", "is_within"]
def nm14 : List PySem.Str := ["other_tick", "does_hold", "check_wish", "Desk", "_law_purse", "_law_take"]
def nm15 : List PySem.Str := ["_law_one", "_law_names", "_law_touches", "_law_pass", "_law_row", "_law_seen"]
def nm16 : List PySem.Str := ["_law_promise", "_law_step", "_law_is_refused", "_law_refused_right", "_law_back_right", "_law_right"]
def nmL : List PySem.Str := nm0 ++ (nm1 ++ (nm2 ++ (nm3 ++ (nm4 ++ (nm5 ++ (nm6 ++ (nm7 ++ (nm8 ++ (nm9 ++ (nm10 ++ (nm11 ++ (nm12 ++ (nm13 ++ (nm14 ++ (nm15 ++ (nm16))))))))))))))))
abbrev hk : PySem.W.Hook := hookQ dsL tsL tfL exL
def ob (s : PySem.W.SharedT) : AlQ := obsQ dsL tsL tfL exL (HandSHeadRun.getT s)
theorem ob_eq (s : PySem.W.SharedT) : ob s = hk.obs s.abs := obsQ_eq (HandSHeadRun.getT_eq s)
theorem run_false (w : World) : HandSHeadRun.RunEq R qv hk ob 12000 nmL (w.withFollow "special-get-raises" false) := by
  intro os
  kernel_rfl
theorem run_true (w : World) : HandSHeadRun.RunEq R qv hk ob 12000 nmL (w.withFollow "special-get-raises" true) := by
  intro os
  kernel_rfl
theorem run (w : World) : HandSHeadRun.RunEq R qv hk ob 12000 nmL w := PySem.W.byRow2 (P := fun w => HandSHeadRun.RunEq R qv hk ob 12000 nmL w) "special-get-raises" run_false run_true w
end TP
end
section
set_option maxRecDepth 100000
/-! Promises of defs that are called where no repr is under way. -/
namespace DL
open PySem PySem.Spec PyProof.Rows L2
/-- room, and no repr under way -/
structure Room (k : Nat) (A : Around) : Prop extends L2.Room k A where
  gu : A.guards = some []
theorem Room.mono {j k : Nat} {A : Around} (r : Room k A) (h : j ≤ k) : Room j A := ⟨r.toRoom.mono h, r.gu⟩
theorem Room.deeper {k : Nat} {A : Around} (r : Room (k + 1) A) (env : Env) : Room k (A.deeper env) := ⟨r.toRoom.deeper env, r.gu⟩
theorem Room.in1 {k : Nat} {A : Around} (r : Room (k + 1) A) : Room k A.in1 := ⟨r.toRoom.in1, r.gu⟩
theorem make_guards {A : Around} {C : Addr} {us : List Value} {kw : List (Str × Value)} : (A.under (.builtin "type.__call__" ⟨.ref C :: us, kw⟩)).guards = A.guards := by
  first | rfl | simp [Around.under, pushGuards, Code.guards, Code.isGuard, guardIds]
theorem Room.make {k : Nat} {A : Around} (r : Room (k + 1) A) (C : Addr) (us : List Value) (kw : List (Str × Value)) : Room k (A.under (.builtin "type.__call__" ⟨.ref C :: us, kw⟩)) := ⟨r.toRoom.make C us kw, make_guards.trans r.gu⟩
/-- what a def promises there -/
structure FnOk (P : Program) (w : World) (K : PySem.W.Frag) (mg : Str → Option Value) (base : Heap) (CX : CXT) (k : Nat) (f : Addr) (fd : FuncData) (ps : List Str) (sp : Sp) : Prop where
  len : ∀ vs H Q E, sp vs H Q E → vs.length = ps.length
  run : ∀ (A : Around) (outer : List Env) (s : Shared) (H : Hp) (args : Args) (us : List Value) (vs : List V) (Q : VK) (E : XK), Room k A → Env0 P w K mg base A outer s H → BindsTo s fd args (ps.zip us) → Vals vs us → sp vs H Q E →
    codeAny (model P w) A (.call (.ref f) args) (CR CX outer P w H s Q E) s
theorem FnOk.mono {P : Program} {w : World} {K : PySem.W.Frag} {mg : Str → Option Value} {base : Heap} {CX : CXT} {j k : Nat} {f : Addr} {fd : FuncData} {ps : List Str} {sp : Sp} (F : FnOk P w K mg base CX j f fd ps sp) (h : j ≤ k) :
    FnOk P w K mg base CX k f fd ps sp := ⟨F.len, fun A outer s H args us vs Q E hr => F.run A outer s H args us vs Q E (hr.mono h)⟩
section
variable {P : Program} {w : World} {K : PySem.W.Frag} {mg : Str → Option Value} {base : Heap} {x qual : Str} {params : Arguments} {body : List Stmt} {scope : Scope} {dvs : List V} {kws : List (Str × V)} {f : Addr} {fd : FuncData}
/-- THE RULE for a def -/
theorem fun_okV {CX : CXT} {N ps : List Str} {k : Nat} {sp : Sp} (F : FunD K x qual params body scope dvs kws f fd) (S : FnScope N ps scope) (len : ∀ vs H Q E, sp vs H Q E → vs.length = ps.length)
    (hbody : ∀ (cdv : Value) (A : Around) (outer : List Env) (s : Shared) (H : Hp) (vs : List V) (Q : VK) (E : XK), Room k (A.deeper (envOfC qual scope s.heap.objs.size f cdv)) → sp vs H Q E →
      ∃ t, PSs (cxOf CX P w K mg base N qual scope f cdv A outer s H E) body t ∧ t { nx := fun _ H' => Q .non H', rt := Q } (start N vs) H) : FnOk P w K mg base CX (k + 1) f fd ps sp := by
  obtain ⟨oc, od, dV, kV, doc, pm, an, cdv, ct, osl, rfl, lk, hcd, _, _⟩ := F.ex
  refine ⟨len, fun A outer s H args us vs Q E hr e0 hb r hsp => ?_⟩
  exact LamX.run_ofS lk hcd S hr.toRoom e0 hb r (len _ _ _ _ hsp) fun _ => hbody cdv A outer s H vs Q E (hr.deeper _) hsp
end
section
variable {X : Cx} {CX : CXT} {k : Nat} {f C p g a dx : Addr} {fs : List (Str × V)} {fd : FuncData} {ps : List Str} {sp : Sp} {dvs : List V} {ds : List Value} {E : L2.St → XK} {x m : Str} {q pos : Pos} {e : Expr} {es : List Expr} {t : TA} {ta : TE}
/-- a call that came back -/
theorem came_back {pins : List (Addr × Obj)} {σ : L2.St} {H : Hp} {s : Shared} {Q : VK} {E : XK} {xe : Value → Shared → Prop} (hx : ∀ e s', CX X.stack H s E e s' → xe e s') (I : Inv X pins σ H s) : ∀ (r : Result) (s' : Shared), CR CX X.stack X.prog X.w H s Q E r s' →
    match r with
    | .ok (.ret u) => EP X pins σ Q u s'
    | .ok _ => False
    | .error e => xe e s' := fun r s' hq => by
  cases r with
  | error e => exact hx e s' hq
  | ok fl =>
    cases fl with
    | ret u => exact I.after hq
    | next => exact False.elim hq
    | brk => exact False.elim hq
    | cont => exact False.elim hq
theorem run_fnSD {pins : List (Addr × Obj)} {σ : L2.St} {H : Hp} {s : Shared} {Q : VK} {us : List Value} {vs : List V} (F : FnOk X.prog X.w X.K X.mg X.base CX k f fd ps sp) (hr : Room k X.A) (hb : Binds X.K fd ps ds) (hd : Vals dvs ds) (hx : PassesAt CX X σ (E σ))
    (I : Inv X pins σ H s) (r : Vals vs us) (h : sp (vs ++ dvs) H Q (E σ)) : wpAny (model X.prog X.w) X.A (call (.ref f) us) (EP X pins σ Q) X.xe s := by
  have both := r.append hd
  have b := hb s us I.kIn (by rw [← both.length]; exact F.len _ _ _ _ h)
  exact wpAny_call (codeAny_mono (F.run _ _ _ _ _ _ _ _ _ hr I.env0 b both h) fun r s' hq => by
    have z := came_back (X := X) (fun e s' => hx pins H s e s' I) I r s' hq
    cases r with
    | error e => exact z
    | ok fl => cases fl <;> first | exact z | exact False.elim z)
theorem pe_callSD (F : FnOk X.prog X.w X.K X.mg X.base CX k f fd ps sp) (hr : Room k X.A) (hg : Gl X x) (hm : X.mg x = some (.ref f)) (hk : PySem.W.keepIn X.K (.ref f) = true) (hb : Binds X.K fd ps ds) (hd : Vals dvs ds) (hx : ∀ σ, PassesAt CX X σ (E σ))
    (ha : PA X (e :: es) t) (hdb : (x == ("__debug__" : Str)) = false := by decide) (he : starEach (e :: es) X.env = (false, eval e X.env) :: starEach es X.env := by rfl) (hpl : (backTo pos (starEach es X.env)).any (·.1) = false := by rfl) :
    PE X (.Call (.Name x q) (e :: es) [] pos) (tCallSD sp dvs E t) :=
  ⟨fun pins s σ H Q I h => wpAny_Call_Name_kw (ld_glob I hg hm (PySem.W.callWith_K (h₀ := X.base) I.ok.mod.kin hk (thn (ha.run pos pins s σ H _ I h) fun us s1 ⟨vs, H1, I1, r, q⟩ => ⟨I1.kIn, run_fnSD F hr hb hd (hx σ) I1 r q⟩) he hpl) hdb)⟩
theorem pe_prop {f : Str} {E : XK} (he : PE X e ta) (c : Cls X.K C) (hp : PropOf X.K C f p g) (F : FnOk X.prog X.w X.K X.mg X.base CX k g fd ps sp) (hr : Room (k + 1) X.A) (hb : Binds X.K fd ps ds) (hd : Vals dvs ds) (hx : Passes CX X.nox E)
    (hab : attributeBase e f X.env (eval e X.env) = eval e X.env) : PE X (.Attribute e f pos) (tProp C sp dvs E ta) := by
  refine ⟨fun pins s σ H Q I h => attr_of hab (thn (he.run pins s σ H _ I h) fun u s1 ⟨x, H1, I1, rx, a, dx, fs, ex, ea, q⟩ => ?_)⟩
  subst ex
  cases (show u = Value.ref a from rx)
  obtain ⟨_, O, _⟩ := ins_get I1.hok ea
  obtain ⟨od, J, _⟩ := O.look
  obtain ⟨rest, hrec⟩ := hp.rec_
  have I2 := I1.tok (s1.toks + 1)
  have both : Vals (.ref a :: dvs) ([Value.ref a] ++ ds) := .cons rfl hd
  have b := hb _ [.ref a] I2.kIn (by rw [← both.length]; exact F.len _ _ _ _ q)
  have hc : (PySem.W.clsIn X.K C).isSome = true := by
    obtain ⟨cd, hc, _⟩ := PySem.W.any_some c.hd
    simp [hc]
  refine PySem.W.get_bind I1.kIn J (PySem.W.plainGet_of (c.get f)).1 (PySem.W.findObj_data hc hp.at_ hp.get hp.tak) (PySem.W.plainGet_of (c.get f)).2 (wpAny_call (PySem.W.prop_get (s := { s1 with toks := s1.toks + 1 }) I1.kIn hrec ?_))
  refine codeAny_mono (F.run _ _ _ _ _ _ _ _ _ hr.in1 I2.env0.in1 b both q) fun r s' hq => ?_
  have z := came_back (X := X) (xe := fun _ _ => False) (fun e s' hq => hx pins σ H1 _ e s' (I2.wish _) hq) I2 r s' hq
  cases r with
  | error er => exact False.elim z
  | ok fl =>
    cases fl with
    | ret u =>
      obtain ⟨v, H', I3, rv, q3⟩ := z
      show wpAny _ _ (handedOut u) _ _ _
      rw [PySem.W.handedOut_of (handed_of rv)]
      exact wpAny_pure ⟨v, H', I3, rv, q3⟩
    | next => exact False.elim z
    | brk => exact False.elim z
    | cont => exact False.elim z
end
end DL
end
section
set_option maxRecDepth 100000
/-! A layer of data over the hand layer: values are trees (tuples, frozen lists, dicts, instances without addresses); only what is changed has an address. -/
namespace DL
open PySem PySem.Spec PyProof.Rows L2

/-- data: what is not changed any more is a tree; ref: a thing with an address -/
inductive D where
  | non | bl (b : Bool) | int (i : Int) | str (x : Str) | ty (n : String) | ref (a : Addr)
  | tup (ds : List D) | lst (ds : List D) | dict (kvs : List (Key × D)) | ins (C : Addr) (fs : List (Str × D))
  | scr (ds : List D)
/-- what is changed, by its address -/
inductive HOD where
  | lst (ds : List D) | dict (kvs : List (Key × D)) | ins (C : Addr) (fs : List (Str × D)) | tab (q : Str) | tup (ds : List D)
/-- no table, no tuple -/
def HOD.mu : HOD → Prop
  | .tab _ => False
  | .tup _ => False
  | _ => True
abbrev GD := Addr → Option HOD
def put (G : GD) (a : Addr) (o : HOD) : GD := fun b => if b = a then some o else G b
def del (G : GD) (a : Addr) : GD := fun b => if b = a then none else G b
theorem put_same {G : GD} {a : Addr} {o : HOD} : put G a o a = some o := if_pos rfl
theorem put_ne {G : GD} {a b : Addr} {o : HOD} (h : b ≠ a) : put G a o b = G b := if_neg h
theorem put_put {G : GD} {a : Addr} {o u : HOD} : put (put G a o) a u = put G a u := by
  funext b; unfold put; split <;> rfl
theorem del_ne {G : GD} {a b : Addr} (h : b ≠ a) : del G a b = G b := if_neg h
theorem del_same {G : GD} {a : Addr} : del G a a = none := if_pos rfl
theorem del_put {G : GD} {a : Addr} {o : HOD} (h : G a = none) : del (put G a o) a = G := by
  funext b; unfold del put; by_cases e : b = a
  · subst e; rw [if_pos rfl, h]
  · rw [if_neg e, if_neg e]

mutual
inductive Rep (K : PySem.W.Frag) (F : Hp) : D → V → Prop
  | non : Rep K F .non .non
  | bl (b : Bool) : Rep K F (.bl b) (.bl b)
  | int (i : Int) : Rep K F (.int i) (.int i)
  | str (x : Str) : Rep K F (.str x) (.str x)
  | ty (n : String) : Rep K F (.ty n) (.ty n)
  | ref (a : Addr) : Rep K F (.ref a) (.ref a)
  | tup {a : Addr} {xs : List V} {ds : List D} : SqT K F a xs → Reps K F ds xs → Rep K F (.tup ds) (.ref a)
  | lst {a : Addr} {xs : List V} {ds : List D} : F a = some (.lst xs) → Reps K F ds xs → Rep K F (.lst ds) (.ref a)
  | dict {a : Addr} {kvs' : List (Key × V)} {kvs : List (Key × D)} : F a = some (.dK kvs') → RepK K F kvs kvs' → Rep K F (.dict kvs) (.ref a)
  | ins {a C dx : Addr} {fs' : List (Str × V)} {fs : List (Str × D)} : F a = some (.ins C dx fs') → RepS K F fs fs' → Rep K F (.ins C fs) (.ref a)
  | scr {a : Addr} {xs : List V} {ds : List D} : SqL K F a xs → Reps K F ds xs → Rep K F (.scr ds) (.ref a)
inductive Reps (K : PySem.W.Frag) (F : Hp) : List D → List V → Prop
  | nil : Reps K F [] []
  | cons {d : D} {v : V} {ds : List D} {vs : List V} : Rep K F d v → Reps K F ds vs → Reps K F (d :: ds) (v :: vs)
inductive RepK (K : PySem.W.Frag) (F : Hp) : List (Key × D) → List (Key × V) → Prop
  | nil : RepK K F [] []
  | cons {k : Key} {d : D} {v : V} {ds : List (Key × D)} {vs : List (Key × V)} : Rep K F d v → RepK K F ds vs → RepK K F ((k, d) :: ds) ((k, v) :: vs)
inductive RepS (K : PySem.W.Frag) (F : Hp) : List (Str × D) → List (Str × V) → Prop
  | nil : RepS K F [] []
  | cons {k : Str} {d : D} {v : V} {ds : List (Str × D)} {vs : List (Str × V)} : Rep K F d v → RepS K F ds vs → RepS K F ((k, d) :: ds) ((k, v) :: vs)
end

def Le (F F' : Hp) : Prop := ∀ a o, F a = some o → F' a = some o
theorem Le.refl (F : Hp) : Le F F := fun _ _ h => h
theorem Le.trans {F F1 F2 : Hp} (a : Le F F1) (b : Le F1 F2) : Le F F2 := fun x o h => b x o (a x o h)
theorem Le.upd {F : Hp} {a : Addr} {o : HO} (h : F a = none) : Le F (upd F a o) := fun b u e => by
  rw [upd_ne (ne_of_none e h)]; exact e
theorem Le.sqT {K : PySem.W.Frag} {F F' : Hp} {a : Addr} {xs : List V} (l : Le F F') (h : SqT K F a xs) : SqT K F' a xs := by
  rcases h with (h | ⟨o, h⟩) | h
  · exact .inl (.inl (l _ _ h))
  · exact .inl (.inr ⟨o, l _ _ h⟩)
  · exact .inr h
theorem Le.sqLK {K : PySem.W.Frag} {F F' : Hp} {a : Addr} {xs : List V} (l : Le F F') (h : SqL K F a xs) : SqL K F' a xs := by
  rcases h with (h | ⟨o, h⟩) | h
  · exact .inl (.inl (l _ _ h))
  · exact .inl (.inr ⟨o, l _ _ h⟩)
  · exact .inr h
theorem Le.sqL {F F' : Hp} {a : Addr} {xs : List V} (l : Le F F') (h : F a = some (.lst xs)) : F' a = some (.lst xs) := l _ _ h

section
variable {K : PySem.W.Frag} {F F' : Hp}
mutual
theorem Rep.mono (l : Le F F') : ∀ {d : D} {v : V}, Rep K F d v → Rep K F' d v
  | _, _, .non => .non
  | _, _, .bl b => .bl b
  | _, _, .int i => .int i
  | _, _, .str x => .str x
  | _, _, .ty n => .ty n
  | _, _, .ref a => .ref a
  | _, _, .tup h r => .tup (l.sqT h) (Reps.mono l r)
  | _, _, .lst h r => .lst (l.sqL h) (Reps.mono l r)
  | _, _, .dict h r => .dict (l _ _ h) (RepK.mono l r)
  | _, _, .ins h r => .ins (l _ _ h) (RepS.mono l r)
  | _, _, .scr h r => .scr (l.sqLK h) (Reps.mono l r)
theorem Reps.mono (l : Le F F') : ∀ {ds : List D} {vs : List V}, Reps K F ds vs → Reps K F' ds vs
  | _, _, .nil => .nil
  | _, _, .cons h r => .cons (Rep.mono l h) (Reps.mono l r)
theorem RepK.mono (l : Le F F') : ∀ {ds : List (Key × D)} {vs : List (Key × V)}, RepK K F ds vs → RepK K F' ds vs
  | _, _, .nil => .nil
  | _, _, .cons h r => .cons (Rep.mono l h) (RepK.mono l r)
theorem RepS.mono (l : Le F F') : ∀ {ds : List (Str × D)} {vs : List (Str × V)}, RepS K F ds vs → RepS K F' ds vs
  | _, _, .nil => .nil
  | _, _, .cons h r => .cons (Rep.mono l h) (RepS.mono l r)
end
theorem Reps.length : ∀ {ds : List D} {vs : List V}, Reps K F ds vs → ds.length = vs.length
  | _, _, .nil => rfl
  | _, _, .cons _ r => congrArg Nat.succ (Reps.length r)
theorem Reps.get : ∀ {ds : List D} {vs : List V} {i : Nat} {d : D}, Reps K F ds vs → ds[i]? = some d → ∃ v, vs[i]? = some v ∧ Rep K F d v
  | _, _, _, _, .nil, e => by simp at e
  | _, _, 0, _, .cons r _, e => by simp at e; subst e; exact ⟨_, rfl, r⟩
  | _, _, i + 1, d, .cons _ t, e => by
    obtain ⟨v, h1, h2⟩ := Reps.get (i := i) (d := d) t (by simpa using e)
    exact ⟨v, by simpa using h1, h2⟩
theorem Reps.get' : ∀ {ds : List D} {vs : List V} {i : Nat} {v : V}, Reps K F ds vs → vs[i]? = some v → ∃ d, ds[i]? = some d ∧ Rep K F d v
  | _, _, _, _, .nil, e => by simp at e
  | _, _, 0, _, .cons r _, e => by simp at e; subst e; exact ⟨_, rfl, r⟩
  | _, _, i + 1, d, .cons _ t, e => by
    obtain ⟨v, h1, h2⟩ := Reps.get' (i := i) (v := d) t (by simpa using e)
    exact ⟨v, by simpa using h1, h2⟩
theorem Reps.append : ∀ {xs ys : List D} {us ws : List V}, Reps K F xs us → Reps K F ys ws → Reps K F (xs ++ ys) (us ++ ws)
  | _, _, _, _, .nil, s => s
  | _, _, _, _, .cons r t, s => .cons r (Reps.append t s)
theorem Reps.take : ∀ {xs : List D} {us : List V} (n : Nat), Reps K F xs us → Reps K F (xs.take n) (us.take n)
  | _, _, 0, _ => .nil
  | _, _, _ + 1, .nil => .nil
  | _, _, n + 1, .cons r t => .cons r (Reps.take n t)
theorem Reps.drop : ∀ {xs : List D} {us : List V} (n : Nat), Reps K F xs us → Reps K F (xs.drop n) (us.drop n)
  | _, _, 0, r => r
  | _, _, _ + 1, .nil => .nil
  | _, _, n + 1, .cons _ t => Reps.drop n t
theorem Reps.set {x : D} {u : V} (r : Rep K F x u) : ∀ {xs : List D} {us : List V} (i : Nat), Reps K F xs us → Reps K F (xs.set i x) (us.set i u)
  | _, _, _, .nil => .nil
  | _, _, 0, .cons _ t => .cons r t
  | _, _, i + 1, .cons q t => .cons q (Reps.set r i t)
theorem Reps.eraseIdx : ∀ {xs : List D} {us : List V} (i : Nat), Reps K F xs us → Reps K F (xs.eraseIdx i) (us.eraseIdx i)
  | _, _, _, .nil => .nil
  | _, _, 0, .cons _ t => t
  | _, _, i + 1, .cons q t => .cons q (Reps.eraseIdx i t)
theorem Reps.dropLast {xs : List D} {us : List V} (h : Reps K F xs us) : Reps K F xs.dropLast us.dropLast := by
  rw [List.dropLast_eq_take, List.dropLast_eq_take, h.length]
  exact h.take _
theorem Reps.reverse {xs : List D} {us : List V} (h : Reps K F xs us) : Reps K F xs.reverse us.reverse := by
  induction xs generalizing us with
  | nil => cases h; exact .nil
  | cons x xs ih =>
    cases h with
    | cons r t =>
      rw [List.reverse_cons, List.reverse_cons]
      exact (ih t).append (.cons r .nil)
theorem Reps.ints : ∀ {ns : List Int} {vs : List V}, Reps K F (ns.map D.int) vs → vs = ns.map V.int
  | [], _, h => by cases h; rfl
  | n :: ns, _, h => by
    cases h with
    | cons r t =>
      cases r
      rw [Reps.ints t]; rfl
theorem Reps.strs : ∀ {ns : List Str} {vs : List V}, Reps K F (ns.map D.str) vs → vs = ns.map V.str
  | [], _, h => by cases h; rfl
  | n :: ns, _, h => by
    cases h with
    | cons r t =>
      cases r
      rw [Reps.strs t]; rfl
theorem Reps.bls : ∀ {ns : List Bool} {vs : List V}, Reps K F (ns.map D.bl) vs → vs = ns.map V.bl
  | [], _, h => by cases h; rfl
  | n :: ns, _, h => by
    cases h with
    | cons r t =>
      cases r
      rw [Reps.bls t]; rfl
theorem reps_ints : ∀ {ns : List Int}, Reps K F (ns.map D.int) (ns.map V.int)
  | [] => .nil
  | _ :: _ => .cons (.int _) reps_ints
theorem reps_strs : ∀ {ns : List Str}, Reps K F (ns.map D.str) (ns.map V.str)
  | [] => .nil
  | _ :: _ => .cons (.str _) reps_strs
theorem RepS.lookup : ∀ {fs : List (Str × D)} {fs' : List (Str × V)} {f : Str} {d : D}, RepS K F fs fs' → fs.lookup f = some d → ∃ v, fs'.lookup f = some v ∧ Rep K F d v
  | _, _, _, _, .nil, e => by simp at e
  | (k, x) :: r, _, f, d, .cons (v := v) (vs := vs) h t, e => by
    rw [List.lookup_cons] at e ⊢
    cases q : (f == k) with
    | true => rw [q] at e; simp at e; subst e; exact ⟨_, rfl, h⟩
    | false => rw [q] at e; exact RepS.lookup t e
theorem RepS.lookup_none : ∀ {fs : List (Str × D)} {fs' : List (Str × V)} {f : Str}, RepS K F fs fs' → fs.lookup f = none → fs'.lookup f = none
  | _, _, _, .nil, e => rfl
  | (k, x) :: r, _, f, .cons (v := v) (vs := vs) h t, e => by
    rw [List.lookup_cons] at e ⊢
    cases q : (f == k) with
    | true => rw [q] at e; cases e
    | false => rw [q] at e; exact RepS.lookup_none t e
theorem RepS.length : ∀ {fs : List (Str × D)} {fs' : List (Str × V)}, RepS K F fs fs' → fs.length = fs'.length
  | _, _, .nil => rfl
  | _, _, .cons _ r => congrArg Nat.succ (RepS.length r)
theorem RepK.length : ∀ {fs : List (Key × D)} {fs' : List (Key × V)}, RepK K F fs fs' → fs.length = fs'.length
  | _, _, .nil => rfl
  | _, _, .cons _ r => congrArg Nat.succ (RepK.length r)
theorem RepK.keys : ∀ {fs : List (Key × D)} {fs' : List (Key × V)}, RepK K F fs fs' → fs.map (·.1) = fs'.map (·.1)
  | _, _, .nil => rfl
  | _, _, .cons _ r => by simp [RepK.keys r]
end

/-- put into fields -/
def putFD (f : Str) (v : D) : List (Str × D) → List (Str × D)
  | [] => [(f, v)]
  | (g, u) :: r => if g = f then (g, v) :: r else (g, u) :: putFD f v r
theorem RepS.put {K : PySem.W.Frag} {F : Hp} {f : Str} {d : D} {v : V} (h : Rep K F d v) : ∀ {fs : List (Str × D)} {fs' : List (Str × V)}, RepS K F fs fs' → RepS K F (putFD f d fs) (putF f v fs')
  | _, _, .nil => .cons h .nil
  | (k, x) :: r, _, .cons (v := w) (vs := vs) q t => by
    show RepS K F (if k = f then (k, d) :: r else (k, x) :: putFD f d r) (if k = f then (k, v) :: vs else (k, w) :: putF f v vs)
    by_cases e : k = f
    · rw [if_pos e, if_pos e]; exact .cons h t
    · rw [if_neg e, if_neg e]; exact .cons q (RepS.put h t)

/-- a kind of object that may be frozen -/
def Imm : HO → Prop
  | .tup _ => True
  | .lst _ => True
  | .dK _ => True
  | .ins _ _ _ => True
  | .frz _ _ => True
  | _ => False
def isDK : HO → Prop
  | .dK _ => True
  | _ => False
/-- what is changed, as it stands -/
def RepO (K : PySem.W.Frag) (F H : Hp) (a : Addr) : HOD → Prop
  | .lst ds => ∃ xs, H a = some (.lst xs) ∧ Reps K F ds xs
  | .dict kvs => ∃ kvs', H a = some (.dK kvs') ∧ RepK K F kvs kvs'
  | .ins C fs => ∃ dx fs', H a = some (.ins C dx fs') ∧ RepS K F fs fs'
  | .tab q => LamX.TabS H a q
  | .tup ds => ∃ xs ob, H a = some (.frz ob (.tup xs)) ∧ ob.dict = none ∧ Reps K F ds xs
theorem RepO.mono {K : PySem.W.Frag} {F F' H : Hp} {a : Addr} (l : Le F F') : ∀ {o : HOD}, RepO K F H a o → RepO K F' H a o
  | .lst _, ⟨xs, h, r⟩ => ⟨xs, h, r.mono l⟩
  | .dict _, ⟨xs, h, r⟩ => ⟨xs, h, r.mono l⟩
  | .ins _ _, ⟨dx, xs, h, r⟩ => ⟨dx, xs, h, r.mono l⟩
  | .tab _, t => t
  | .tup _, ⟨xs, ob, h, d, r⟩ => ⟨xs, ob, h, d, r.mono l⟩
/-- neither a table nor a hidden thing -/
def Ord : HO → Prop
  | .lst _ => True
  | .dK _ => True
  | .ins _ _ _ => True
  | .own _ => True
  | .tup _ => True
  | _ => False
/-- nothing, or neither a table nor a hidden thing -/
def Fit (H : Hp) (p : Addr) : Prop := H p = none ∨ ∃ u, H p = some u ∧ Ord u
theorem RepO.ord {K : PySem.W.Frag} {F H : Hp} {a : Addr} : ∀ {o : HOD}, o.mu → RepO K F H a o → ∃ u, H a = some u ∧ Ord u ∧ ∀ ob w, u ≠ .frz ob w
  | .lst _, _, ⟨xs, h, r⟩ => ⟨_, h, trivial, fun _ _ z => by cases z⟩
  | .dict _, _, ⟨xs, h, r⟩ => ⟨_, h, trivial, fun _ _ z => by cases z⟩
  | .ins _ _, _, ⟨dx, xs, h, r⟩ => ⟨_, h, trivial, fun _ _ z => by cases z⟩
  | .tab _, m, _ => m.elim
  | .tup _, m, _ => m.elim
theorem tab_upd {H : Hp} {p P : Addr} {o : HO} {q : Str} (h : Fit H p) (t : LamX.TabS H P q) : LamX.TabS (upd H p o) P q := by
  have ne : ∀ {b : Addr} {u : HO}, H b = some u → ¬ Ord u → b ≠ p := fun {b u} e n z => by
    rcases h with h | ⟨u', e', o'⟩
    · rw [z, h] at e; cases e
    · rw [z, e'] at e; cases e; exact n o'
  obtain ⟨ps, h1, h2, h3⟩ := t
  refine ⟨ps, by rw [upd_ne (ne h1 fun z => z)]; exact h1, h2, fun pos cv hc => ?_⟩
  obtain ⟨c, e1, e2⟩ := h3 pos cv hc
  exact ⟨c, e1, by rw [upd_ne (ne e2 fun z => z)]; exact e2⟩
theorem RepO.at {K : PySem.W.Frag} {F H : Hp} {a p : Addr} {u : HO} (f : Fit H p) (e : a ≠ p) : ∀ {o : HOD}, RepO K F H a o → RepO K F (upd H p u) a o
  | .lst _, ⟨xs, h, r⟩ => ⟨xs, (upd_ne e).trans h, r⟩
  | .dict _, ⟨xs, h, r⟩ => ⟨xs, (upd_ne e).trans h, r⟩
  | .ins _ _, ⟨dx, xs, h, r⟩ => ⟨dx, xs, (upd_ne e).trans h, r⟩
  | .tab _, t => tab_upd f t
  | .tup _, ⟨xs, ob, h, d, r⟩ => ⟨xs, ob, (upd_ne e).trans h, d, r⟩
theorem RepO.there {K : PySem.W.Frag} {F H : Hp} {a : Addr} : ∀ {o : HOD}, RepO K F H a o → ∃ u, H a = some u
  | .lst _, ⟨xs, h, r⟩ => ⟨_, h⟩
  | .dict _, ⟨xs, h, r⟩ => ⟨_, h⟩
  | .ins _ _, ⟨dx, xs, h, r⟩ => ⟨_, h⟩
  | .tab _, ⟨ps, h, _⟩ => ⟨_, h⟩
  | .tup _, ⟨xs, ob, h, _⟩ => ⟨_, h⟩
/-- the heap H holds the frozen part F and the changing part G -/
structure AbsH (K : PySem.W.Frag) (F H : Hp) (G : GD) : Prop where
  sub : ∀ a o, F a = some o → Imm o ∧ (H a = some o ∨ (isDK o ∧ ∃ ob, H a = some (.frz ob o)))
  obj : ∀ a o, G a = some o → F a = none ∧ RepO K F H a o
abbrev SD := List (Option D)
structure Slots (K : PySem.W.Frag) (F : Hp) (σ : L2.St) (s : SD) : Prop where
  len : s.length = σ.length
  at_ : ∀ (i : Nat) (d : D), s[i]? = some (some d) → ∃ v, σ[i]? = some (some v) ∧ Rep K F d v
/-- a step: the frozen part grows, locks stay, what neither part names stays as it is -/
structure Stp (F H : Hp) (G : GD) (F' H' : Hp) (G' : GD) : Prop where
  le : Le F F'
  fz : ∀ a ob u, H a = some (.frz ob u) → H' a = some (.frz ob u)
  hid : ∀ b o, H b = some o → (∀ ps, o ≠ .tbl ps) → F b = none → G b = none → H' b = some o ∧ F' b = none ∧ G' b = none
theorem Stp.refl (F H : Hp) (G : GD) : Stp F H G F H G := ⟨.refl F, fun _ _ _ h => h, fun _ _ h _ a b => ⟨h, a, b⟩⟩
theorem Stp.trans {F H F1 H1 F2 H2 : Hp} {G G1 G2 : GD} (a : Stp F H G F1 H1 G1) (b : Stp F1 H1 G1 F2 H2 G2) : Stp F H G F2 H2 G2 :=
  ⟨a.le.trans b.le, fun x o u h => b.fz x o u (a.fz x o u h), fun x o h n f g => let ⟨h1, f1, g1⟩ := a.hid x o h n f g; b.hid x o h1 n f1 g1⟩
section
variable {K : PySem.W.Frag} {F F' H H' : Hp} {G : GD} {σ : L2.St} {s : SD}
theorem Slots.mono (l : Le F F') (h : Slots K F σ s) : Slots K F' σ s := ⟨h.len, fun i d e => let ⟨v, a, r⟩ := h.at_ i d e; ⟨v, a, r.mono l⟩⟩
theorem Slots.set {i : Nat} {d : D} {v : V} (h : Slots K F σ s) (r : Rep K F d v) : Slots K F (σ.set i (some v)) (s.set i (some d)) := by
  refine ⟨by simp [h.len], fun j e hj => ?_⟩
  by_cases q : i = j
  · subst q
    by_cases hl : i < s.length
    · rw [List.getElem?_set_self hl] at hj
      cases hj
      exact ⟨v, List.getElem?_set_self (by rw [← h.len]; exact hl), r⟩
    · rw [List.getElem?_eq_none (by simpa using hl)] at hj; cases hj
  · rw [List.getElem?_set_ne q] at hj ⊢
    exact h.at_ j e hj
theorem Slots.unset {i : Nat} (h : Slots K F σ s) : Slots K F (σ.set i none) (s.set i none) := by
  refine ⟨by simp [h.len], fun j e hj => ?_⟩
  by_cases q : i = j
  · subst q
    by_cases hl : i < s.length
    · rw [List.getElem?_set_self hl] at hj; cases hj
    · rw [List.getElem?_eq_none (by simpa using hl)] at hj; cases hj
  · rw [List.getElem?_set_ne q] at hj ⊢
    exact h.at_ j e hj
theorem AbsH.fnone (A : AbsH K F H G) {p : Addr} (h : H p = none) : F p = none := by
  cases e : F p with
  | none => rfl
  | some o => rcases (A.sub p o e).2 with q | ⟨_, _, q⟩ <;> rw [h] at q <;> cases q
theorem AbsH.gnone (A : AbsH K F H G) {p : Addr} (h : H p = none) : G p = none := by
  cases e : G p with
  | none => rfl
  | some o =>
    obtain ⟨_, u⟩ := A.obj p o e
    obtain ⟨w, q⟩ := u.there
    rw [h] at q; cases q
/-- a new thing is laid and frozen -/
theorem AbsH.laidF (A : AbsH K F H G) {p : Addr} {o : HO} (hp : H p = none) (im : Imm o) : AbsH K (upd F p o) (upd H p o) G := by
  have fp := A.fnone hp
  refine ⟨fun a u e => ?_, fun a u e => ?_⟩
  · by_cases q : a = p
    · subst q; rw [upd_same] at e; cases e
      exact ⟨im, .inl upd_same⟩
    · rw [upd_ne q] at e; rw [upd_ne q]; exact A.sub a u e
  · have q : a ≠ p := fun z => by rw [z, A.gnone hp] at e; cases e
    obtain ⟨n, r⟩ := A.obj a u e
    exact ⟨by rw [upd_ne q]; exact n, (r.mono (Le.upd fp)).at (.inl hp) q⟩
theorem AbsH.stpF (A : AbsH K F H G) {p : Addr} {o : HO} (hp : H p = none) : Stp F H G (upd F p o) (upd H p o) G :=
  ⟨Le.upd (A.fnone hp), fun a ob u e => by rw [upd_ne (ne_of_none e hp)]; exact e, fun b u e _ f g => by
    have q := ne_of_none e hp
    rw [upd_ne q, upd_ne q]; exact ⟨e, f, g⟩⟩
/-- an untracked change beside -/
theorem AbsH.beside (A : AbsH K F H G) {p : Addr} {o : HO} (hp : H p = none) : AbsH K F (upd H p o) G := by
  refine ⟨fun a u e => ?_, fun a u e => ?_⟩
  · have q : a ≠ p := fun z => by rw [z, A.fnone hp] at e; cases e
    rw [upd_ne q]; exact A.sub a u e
  · have q : a ≠ p := fun z => by rw [z, A.gnone hp] at e; cases e
    obtain ⟨n, r⟩ := A.obj a u e
    exact ⟨n, r.at (.inl hp) q⟩
theorem stp_beside {p : Addr} {o : HO} (hp : H p = none) : Stp F H G F (upd H p o) G := ⟨.refl F, fun a ob u e => by rw [upd_ne (ne_of_none e hp)]; exact e, fun b u e _ f g => by
    rw [upd_ne (ne_of_none e hp)]; exact ⟨e, f, g⟩⟩
theorem stp_new {p : Addr} {o : HO} {g : HOD} (hp : H p = none) : Stp F H G F (upd H p o) (put G p g) := ⟨.refl F, fun a ob u e => by rw [upd_ne (ne_of_none e hp)]; exact e, fun b u e _ f h => by
    have q := ne_of_none e hp
    rw [upd_ne q, put_ne q]; exact ⟨e, f, h⟩⟩
/-- a new thing is laid and may be changed -/
theorem AbsH.laidG (A : AbsH K F H G) {p : Addr} {o : HO} {g : HOD} (hp : H p = none) (r : RepO K F (upd H p o) p g) : AbsH K F (upd H p o) (put G p g) := by
  refine ⟨(A.beside hp).sub, fun a u e => ?_⟩
  by_cases q : a = p
  · subst q; rw [put_same] at e; cases e
    exact ⟨A.fnone hp, r⟩
  · rw [put_ne q] at e
    exact (A.beside hp).obj a u e
/-- a thing is changed -/
theorem AbsH.write (A : AbsH K F H G) {p : Addr} {o : HO} {g g' : HOD} (hp : G p = some g) (r : RepO K F (upd H p o) p g') (m : g.mu := by trivial) : AbsH K F (upd H p o) (put G p g') := by
  obtain ⟨fp, rp⟩ := A.obj p g hp
  refine ⟨fun a u e => ?_, fun a u e => ?_⟩
  · have q : a ≠ p := fun z => by rw [z, fp] at e; cases e
    rw [upd_ne q]; exact A.sub a u e
  · by_cases q : a = p
    · subst q; rw [put_same] at e; cases e; exact ⟨fp, r⟩
    · rw [put_ne q] at e
      obtain ⟨n, r⟩ := A.obj a u e
      obtain ⟨w, hw, ow, _⟩ := rp.ord m
      exact ⟨n, r.at (.inr ⟨w, hw, ow⟩) q⟩
theorem AbsH.stpW (A : AbsH K F H G) {p : Addr} {o : HO} {g g' : HOD} (hp : G p = some g) (m : g.mu := by trivial) : Stp F H G F (upd H p o) (put G p g') := by
  obtain ⟨fp, rp⟩ := A.obj p g hp
  obtain ⟨u, e, _, nf⟩ := rp.ord m
  refine ⟨.refl F, fun a ob w h => ?_, fun b w h _ f g => ?_⟩
  · have q : a ≠ p := fun z => by rw [z, e] at h; exact nf ob w (Option.some.inj h)
    rw [upd_ne q]; exact h
  · have q : b ≠ p := fun z => by rw [z, hp] at g; cases g
    rw [upd_ne q, put_ne q]; exact ⟨h, f, g⟩
theorem AbsH.sqT (A : AbsH K F H G) {a : Addr} {xs : List V} (h : SqT K F a xs) : SqT K H a xs := by
  rcases h with (h | ⟨o, h⟩) | h
  · rcases (A.sub _ _ h).2 with e | ⟨z, _⟩
    · exact .inl (.inl e)
    · exact z.elim
  · rcases (A.sub _ _ h).2 with e | ⟨z, _⟩
    · exact .inl (.inr ⟨o, e⟩)
    · exact z.elim
  · exact .inr h
theorem AbsH.sqLK (A : AbsH K F H G) {a : Addr} {xs : List V} (h : SqL K F a xs) : SqL K H a xs := by
  rcases h with (h | ⟨o, h⟩) | h
  · rcases (A.sub _ _ h).2 with e | ⟨z, _⟩
    · exact .inl (.inl e)
    · exact z.elim
  · rcases (A.sub _ _ h).2 with e | ⟨z, _⟩
    · exact .inl (.inr ⟨o, e⟩)
    · exact z.elim
  · exact .inr h
theorem AbsH.lstH (A : AbsH K F H G) {a : Addr} {xs : List V} (h : F a = some (.lst xs)) : H a = some (.lst xs) := by
  rcases (A.sub _ _ h).2 with e | ⟨z, _⟩
  · exact e
  · exact z.elim
theorem AbsH.sqL (A : AbsH K F H G) {a : Addr} {xs : List V} (h : F a = some (.lst xs)) : SqL K H a xs := .inl (.inl (A.lstH h))
theorem AbsH.dk (A : AbsH K F H G) {a : Addr} {kvs : List (Key × V)} (h : F a = some (.dK kvs)) : Rd H a (.dK kvs) := by
  rcases (A.sub _ _ h).2 with e | ⟨_, ob, e⟩
  · exact .inl e
  · exact .inr ⟨ob, e⟩
theorem AbsH.inst (A : AbsH K F H G) {a C dx : Addr} {fs : List (Str × V)} (h : F a = some (.ins C dx fs)) : H a = some (.ins C dx fs) := by
  rcases (A.sub _ _ h).2 with e | ⟨z, _⟩
  · exact e
  · exact z.elim
end

/-! ### what one may do without the program's noticing: forgetting, freezing -/
/-- (d, G) may be taken for (d', G') -/
def Can (K : PySem.W.Frag) (d : D) (G : GD) (d' : D) (G' : GD) : Prop := ∀ F H v, AbsH K F H G → Rep K F d v → ∃ F', Stp F H G F' H G' ∧ AbsH K F' H G' ∧ Rep K F' d' v
/-- slots and heap may be taken for others -/
def CanS (K : PySem.W.Frag) (s : SD) (G : GD) (s' : SD) (G' : GD) : Prop := ∀ F H σ, AbsH K F H G → Slots K F σ s → ∃ F', Stp F H G F' H G' ∧ AbsH K F' H G' ∧ Slots K F' σ s'
/-- a heap may be taken for one with less -/
def Less (G' G : GD) : Prop := ∀ a o, G' a = some o → G a = some o
theorem Less.refl (G : GD) : Less G G := fun _ _ h => h
theorem Less.trans {G G1 G2 : GD} (a : Less G G1) (b : Less G1 G2) : Less G G2 := fun x o h => b x o (a x o h)
theorem Less.none {G G' : GD} (l : Less G' G) {a : Addr} (h : G a = none) : G' a = none := by
  cases e : G' a with
  | none => rfl
  | some o => rw [l a o e] at h; cases h
theorem Less.del {G : GD} {a : Addr} : Less (del G a) G := fun b o h => by
  by_cases q : b = a
  · subst q; rw [del_same] at h; cases h
  · rw [del_ne q] at h; exact h
theorem Less.put {G : GD} {a : Addr} {o : HOD} (h : G a = Option.none) : Less G (put G a o) := fun b u e => by
  have q : b ≠ a := fun z => by rw [z, h] at e; cases e
  rw [put_ne q]; exact e
section
variable {K : PySem.W.Frag} {d d' d2 : D} {G G' G2 : GD} {s s' s2 : SD}
theorem Can.refl : Can K d G d G := fun F H v A r => ⟨F, .refl F H G, A, r⟩
theorem Can.trans (a : Can K d G d' G') (b : Can K d' G' d2 G2) : Can K d G d2 G2 := fun F H v A r => by
  obtain ⟨F1, l1, A1, r1⟩ := a F H v A r
  obtain ⟨F2, l2, A2, r2⟩ := b F1 H v A1 r1
  exact ⟨F2, l1.trans l2, A2, r2⟩
theorem CanS.trans (a : CanS K s G s' G') (b : CanS K s' G' s2 G2) : CanS K s G s2 G2 := fun F H v A r => by
  obtain ⟨F1, l1, A1, r1⟩ := a F H v A r
  obtain ⟨F2, l2, A2, r2⟩ := b F1 H v A1 r1
  exact ⟨F2, l1.trans l2, A2, r2⟩
theorem AbsH.less {F H : Hp} (A : AbsH K F H G) (h : Less G' G) : AbsH K F H G' := ⟨A.sub, fun a o e => A.obj a o (h a o e)⟩
theorem stp_less {F H : Hp} (h : Less G' G) : Stp F H G F H G' := ⟨.refl F, fun _ _ _ h => h, fun b o e _ f g => ⟨e, f, h.none g⟩⟩
theorem Can.less (h : Less G' G) : Can K d G d G' := fun F H v A r => ⟨F, stp_less h, A.less h, r⟩
theorem CanS.refl : CanS K s G s G := fun F H σ A r => ⟨F, .refl F H G, A, r⟩
theorem CanS.less (h : Less G' G) : CanS K s G s G' := fun F H v A r => ⟨F, stp_less h, A.less h, r⟩
theorem AbsH.frz {F H : Hp} {p : Addr} {g : HOD} {o : HO} (A : AbsH K F H G) (hp : G p = some g) (e : H p = some o) (im : Imm o) : Stp F H G (upd F p o) H (del G p) ∧ AbsH K (upd F p o) H (del G p) := by
  obtain ⟨fp, _⟩ := A.obj p _ hp
  have l : Le F (upd F p o) := Le.upd fp
  refine ⟨⟨l, fun _ _ _ z => z, fun b u h _ f g => ?_⟩, ⟨fun a u h => ?_, fun a u h => ?_⟩⟩
  · have q : b ≠ p := fun z => by rw [z, hp] at g; cases g
    rw [upd_ne q, del_ne q]; exact ⟨h, f, g⟩
  · by_cases q : a = p
    · subst q; rw [upd_same] at h; cases h; exact ⟨im, .inl e⟩
    · rw [upd_ne q] at h; exact A.sub a u h
  · have q : a ≠ p := fun z => by rw [z, del_same] at h; cases h
    rw [del_ne q] at h
    obtain ⟨n, t⟩ := A.obj a u h
    exact ⟨by rw [upd_ne q]; exact n, t.mono l⟩
theorem AbsH.frzL {F H : Hp} {p : Addr} {ds : List D} (A : AbsH K F H G) (hp : G p = some (.lst ds)) : ∃ F', Stp F H G F' H (del G p) ∧ AbsH K F' H (del G p) ∧ Rep K F' (.lst ds) (.ref p) := by
  obtain ⟨fp, xs, e, r⟩ := A.obj p _ hp
  obtain ⟨st, A'⟩ := A.frz hp e trivial
  exact ⟨_, st, A', .lst upd_same (r.mono st.le)⟩
theorem AbsH.frzD {F H : Hp} {p : Addr} {kvs : List (Key × D)} (A : AbsH K F H G) (hp : G p = some (.dict kvs)) : ∃ F', Stp F H G F' H (del G p) ∧ AbsH K F' H (del G p) ∧ Rep K F' (.dict kvs) (.ref p) := by
  obtain ⟨fp, xs, e, r⟩ := A.obj p _ hp
  obtain ⟨st, A'⟩ := A.frz hp e trivial
  exact ⟨_, st, A', .dict upd_same (r.mono st.le)⟩
theorem AbsH.frzI {F H : Hp} {p C : Addr} {fs : List (Str × D)} (A : AbsH K F H G) (hp : G p = some (.ins C fs)) : ∃ F', Stp F H G F' H (del G p) ∧ AbsH K F' H (del G p) ∧ Rep K F' (.ins C fs) (.ref p) := by
  obtain ⟨fp, dx, xs, e, r⟩ := A.obj p _ hp
  obtain ⟨st, A'⟩ := A.frz hp e trivial
  exact ⟨_, st, A', .ins upd_same (r.mono st.le)⟩
theorem Can.lst {p : Addr} {ds : List D} (hp : G p = some (.lst ds)) : Can K (.ref p) G (.lst ds) (del G p) := fun F H v A r => by
  cases r; exact A.frzL hp
theorem Can.dict {p : Addr} {kvs : List (Key × D)} (hp : G p = some (.dict kvs)) : Can K (.ref p) G (.dict kvs) (del G p) := fun F H v A r => by
  cases r; exact A.frzD hp
theorem Can.ins {p C : Addr} {fs : List (Str × D)} (hp : G p = some (.ins C fs)) : Can K (.ref p) G (.ins C fs) (del G p) := fun F H v A r => by
  cases r; exact A.frzI hp
/-- a slot's thing is frozen -/
theorem CanS.slot {i : Nat} {p : Addr} {d : D} (hs : s[i]? = some (some (.ref p))) (c : ∀ F H, AbsH K F H G → ∃ F', Stp F H G F' H G' ∧ AbsH K F' H G' ∧ Rep K F' d (.ref p)) : CanS K s G (s.set i (some d)) G' := fun F H σ A S => by
  obtain ⟨F', l, A', r'⟩ := c F H A
  refine ⟨F', l, A', ⟨by rw [List.length_set]; exact S.len, fun j e hj => ?_⟩⟩
  by_cases q : i = j
  · subst q
    have hl : i < s.length := (List.getElem?_eq_some_iff.mp hs).1
    rw [List.getElem?_set_self hl] at hj
    cases hj
    obtain ⟨v, e1, r1⟩ := S.at_ i _ hs
    cases r1
    exact ⟨_, e1, r'⟩
  · rw [List.getElem?_set_ne q] at hj
    obtain ⟨v, e1, r1⟩ := S.at_ j e hj
    exact ⟨v, e1, r1.mono l.le⟩
theorem CanS.lst {i : Nat} {p : Addr} {ds : List D} (hs : s[i]? = some (some (.ref p))) (hp : G p = some (.lst ds)) : CanS K s G (s.set i (some (.lst ds))) (del G p) := CanS.slot hs fun F H A => A.frzL hp
theorem CanS.dict {i : Nat} {p : Addr} {ds : List (Key × D)} (hs : s[i]? = some (some (.ref p))) (hp : G p = some (.dict ds)) : CanS K s G (s.set i (some (.dict ds))) (del G p) := CanS.slot hs fun F H A => A.frzD hp
theorem CanS.ins {i : Nat} {p C : Addr} {ds : List (Str × D)} (hs : s[i]? = some (some (.ref p))) (hp : G p = some (.ins C ds)) : CanS K s G (s.set i (some (.ins C ds))) (del G p) := CanS.slot hs fun F H A => A.frzI hp
/-- a slot is forgotten -/
theorem CanS.lose {i : Nat} : CanS K s G (s.set i none) G := fun F H σ A S => ⟨F, .refl F H G, A, ⟨by rw [List.length_set]; exact S.len, fun j e hj => by
  by_cases q : i = j
  · subst q
    by_cases hl : i < s.length
    · rw [List.getElem?_set_self hl] at hj; cases hj
    · rw [List.getElem?_eq_none (by simpa using hl)] at hj; cases hj
  · rw [List.getElem?_set_ne q] at hj
    exact S.at_ j e hj⟩⟩
end

/-! ### readings over data -/
abbrev XD := Value → List (Str × D) → SD → GD → Prop
abbrev KD := D → GD → Prop
abbrev TDE := SD → GD → KD → XD → Prop
abbrev TDA := SD → GD → (List D → GD → Prop) → XD → Prop
abbrev TDT := SD → GD → (Bool → GD → Prop) → XD → Prop
structure EndsD where
  nx : SD → GD → Prop
  rt : KD
  bk : SD → GD → Prop := fun _ _ => False
  ct : SD → GD → Prop := fun _ _ => False
  ex : XD
abbrev TDS := EndsD → SD → GD → Prop
/-- an exception's own data -/
def RepX (K : PySem.W.Frag) (F H : Hp) (dx : Option Addr) (fs : List (Str × D)) : Prop :=
  (dx = none ∧ fs = []) ∨ ∃ a fs', dx = some a ∧ H a = some (.xd fs') ∧ RepS K F fs fs'
structure LinkE (K : PySem.W.Frag) (F H : Hp) (G : GD) (σ : L2.St) (QD : KD) (ED : XD) (Q : VK) (W : WX) : Prop where
  ok : ∀ F' H' d G' v, Stp F H G F' H' G' → AbsH K F' H' G' → Rep K F' d v → QD d G' → Q v H'
  ex : ∀ F' H' cls dx fs s' G', Stp F H G F' H' G' → AbsH K F' H' G' → Slots K F' σ s' → RepX K F' H' dx fs → ED cls fs s' G' → W cls dx σ H'
structure LinkA (K : PySem.W.Frag) (F H : Hp) (G : GD) (σ : L2.St) (QD : List D → GD → Prop) (ED : XD) (Q : List V → Hp → Prop) (W : WX) : Prop where
  ok : ∀ F' H' ds G' vs, Stp F H G F' H' G' → AbsH K F' H' G' → Reps K F' ds vs → QD ds G' → Q vs H'
  ex : ∀ F' H' cls dx fs s' G', Stp F H G F' H' G' → AbsH K F' H' G' → Slots K F' σ s' → RepX K F' H' dx fs → ED cls fs s' G' → W cls dx σ H'
structure LinkT (K : PySem.W.Frag) (F H : Hp) (G : GD) (σ : L2.St) (QD : Bool → GD → Prop) (ED : XD) (Q : Bool → Hp → Prop) (W : WX) : Prop where
  ok : ∀ F' H' b G', Stp F H G F' H' G' → AbsH K F' H' G' → QD b G' → Q b H'
  ex : ∀ F' H' cls dx fs s' G', Stp F H G F' H' G' → AbsH K F' H' G' → Slots K F' σ s' → RepX K F' H' dx fs → ED cls fs s' G' → W cls dx σ H'
structure LinkS (K : PySem.W.Frag) (F H : Hp) (G : GD) (DD : EndsD) (Dn : Ends) (W : WX) : Prop where
  nx : ∀ F' H' s' G' σ', Stp F H G F' H' G' → AbsH K F' H' G' → Slots K F' σ' s' → DD.nx s' G' → Dn.nx σ' H'
  rt : ∀ F' H' d G' v, Stp F H G F' H' G' → AbsH K F' H' G' → Rep K F' d v → DD.rt d G' → Dn.rt v H'
  bk : ∀ F' H' s' G' σ', Stp F H G F' H' G' → AbsH K F' H' G' → Slots K F' σ' s' → DD.bk s' G' → Dn.bk σ' H'
  ct : ∀ F' H' s' G' σ', Stp F H G F' H' G' → AbsH K F' H' G' → Slots K F' σ' s' → DD.ct s' G' → Dn.ct σ' H'
  ex : ∀ F' H' cls dx fs s' G' σ', Stp F H G F' H' G' → AbsH K F' H' G' → Slots K F' σ' s' → RepX K F' H' dx fs → DD.ex cls fs s' G' → W cls dx σ' H'
section
variable (K : PySem.W.Frag) (W : WX)
def liftE (t : TDE) : TE := fun σ H Q => ∃ F s G QD ED, AbsH K F H G ∧ Slots K F σ s ∧ t s G QD ED ∧ LinkE K F H G σ QD ED Q W
def liftA (t : TDA) : TA := fun σ H Q => ∃ F s G QD ED, AbsH K F H G ∧ Slots K F σ s ∧ t s G QD ED ∧ LinkA K F H G σ QD ED Q W
def liftT (t : TDT) : TT := fun σ H Q => ∃ F s G QD ED, AbsH K F H G ∧ Slots K F σ s ∧ t s G QD ED ∧ LinkT K F H G σ QD ED Q W
def liftS (t : TDS) : TS := fun Dn σ H => ∃ F s G DD, AbsH K F H G ∧ Slots K F σ s ∧ t DD s G ∧ LinkS K F H G DD Dn W
end
section
variable {K : PySem.W.Frag} {W : WX} {F H F' H' : Hp} {G G' : GD} {σ : L2.St}
theorem LinkE.mono {QD : KD} {ED : XD} {Q : VK} (st : Stp F H G F' H' G') (l : LinkE K F H G σ QD ED Q W) : LinkE K F' H' G' σ QD ED Q W :=
  ⟨fun F2 H2 d G v s2 => l.ok F2 H2 d G v (st.trans s2), fun F2 H2 c dx fs s G s2 => l.ex F2 H2 c dx fs s G (st.trans s2)⟩
theorem LinkA.mono {QD : List D → GD → Prop} {ED : XD} {Q : List V → Hp → Prop} (st : Stp F H G F' H' G') (l : LinkA K F H G σ QD ED Q W) : LinkA K F' H' G' σ QD ED Q W :=
  ⟨fun F2 H2 d G v s2 => l.ok F2 H2 d G v (st.trans s2), fun F2 H2 c dx fs s G s2 => l.ex F2 H2 c dx fs s G (st.trans s2)⟩
theorem LinkT.mono {QD : Bool → GD → Prop} {ED : XD} {Q : Bool → Hp → Prop} (st : Stp F H G F' H' G') (l : LinkT K F H G σ QD ED Q W) : LinkT K F' H' G' σ QD ED Q W :=
  ⟨fun F2 H2 d G s2 => l.ok F2 H2 d G (st.trans s2), fun F2 H2 c dx fs s G s2 => l.ex F2 H2 c dx fs s G (st.trans s2)⟩
theorem LinkS.mono {DD : EndsD} {Dn : Ends} (st : Stp F H G F' H' G') (l : LinkS K F H G DD Dn W) : LinkS K F' H' G' DD Dn W :=
  ⟨fun F2 H2 s G σ s2 => l.nx F2 H2 s G σ (st.trans s2), fun F2 H2 d G v s2 => l.rt F2 H2 d G v (st.trans s2), fun F2 H2 s G σ s2 => l.bk F2 H2 s G σ (st.trans s2),
    fun F2 H2 s G σ s2 => l.ct F2 H2 s G σ (st.trans s2), fun F2 H2 c dx fs s G σ s2 => l.ex F2 H2 c dx fs s G σ (st.trans s2)⟩
end
/-! ### judgements -/
def DE (X : Cx) (W : WX) (e : Expr) (t : TDE) : Prop := PE X e (liftE X.K W t)
def DT (X : Cx) (W : WX) (e : Expr) (t : TDT) : Prop := PT X e (liftT X.K W t)
def DW (X : Cx) (W : WX) (e : Expr) (t : TDT) : Prop := PW X e (liftT X.K W t)
def DA (X : Cx) (W : WX) (es : List Expr) (t : TDA) : Prop := PA X es (liftA X.K W t)
def DS (X : Cx) (W : WX) (st : Stmt) (t : TDS) : Prop := PS X st (liftS X.K W t)
def DSs (X : Cx) (W : WX) (st : List Stmt) (t : TDS) : Prop := PSs X st (liftS X.K W t)
/-- weaken a reading -/
theorem PE.imp {X : Cx} {e : Expr} {t t' : TE} (h : PE X e t) (i : ∀ σ H Q, t' σ H Q → t σ H Q) : PE X e t' := ⟨fun pins s σ H Q I q => h.run pins s σ H Q I (i σ H Q q)⟩
theorem PT.imp {X : Cx} {e : Expr} {t t' : TT} (h : PT X e t) (i : ∀ σ H Q, t' σ H Q → t σ H Q) : PT X e t' := ⟨fun pins s σ H Q I q => h.run pins s σ H Q I (i σ H Q q)⟩
theorem PW.imp {X : Cx} {e : Expr} {t t' : TT} (h : PW X e t) (i : ∀ σ H Q, t' σ H Q → t σ H Q) : PW X e t' := ⟨fun wh pins s σ H Q I q => h.run wh pins s σ H Q I (i σ H Q q)⟩
theorem PA.imp {X : Cx} {e : List Expr} {t t' : TA} (h : PA X e t) (i : ∀ σ H Q, t' σ H Q → t σ H Q) : PA X e t' := ⟨fun pos pins s σ H Q I q => h.run pos pins s σ H Q I (i σ H Q q)⟩
theorem PS.imp {X : Cx} {e : Stmt} {t t' : TS} (h : PS X e t) (i : ∀ Dn σ H, t' Dn σ H → t Dn σ H) : PS X e t' := ⟨fun pins s σ H Dn I q => h.run pins s σ H Dn I (i Dn σ H q)⟩
theorem PSs.imp {X : Cx} {e : List Stmt} {t t' : TS} (h : PSs X e t) (i : ∀ Dn σ H, t' Dn σ H → t Dn σ H) : PSs X e t' := ⟨fun pins s σ H Dn I q => h.run pins s σ H Dn I (i Dn σ H q)⟩
end DL
end
section
set_option maxRecDepth 100000
/-! Rules of the layer of data: names, constants, operators, tests, displays, subscripts, slices, blocks. -/
namespace DL
open PySem PySem.Spec PyProof.Rows L2

theorem untT {A B : Prop} (h : if true = true then A else B) : A := by rw [if_pos rfl] at h; exact h
theorem untF {A B : Prop} (h : if false = true then A else B) : B := by rw [if_neg Bool.false_ne_true] at h; exact h
/-! ### names, constants -/
def dVar (i : Nat) : TDE := fun s G Q _ => match s[i]? with
  | some (some d) => Q d G
  | _ => False
def dC (d : D) : TDE := fun _ G Q _ => Q d G
section
variable {X : Cx} {W : WX}
theorem dv_of {i : Nat} {e : Expr} (h : PE X e (tVar i)) : DE X W e (dVar i) := by
  refine PE.imp h fun σ H Q q => ?_
  obtain ⟨F, s, G, QD, ED, A, S, t, l⟩ := q
  unfold dVar at t
  split at t
  · rename_i d e
    obtain ⟨v, e1, r⟩ := S.at_ i d e
    exact ⟨v, e1, l.ok F H d G v (.refl F H G) A r t⟩
  · exact t.elim
theorem dv (i : Nat) {x : Str} {pos : Pos} (hN : X.N[i]? = some x := by rfl) (hv : Vis X.env.scope x := by first | exact Or.inl rfl | exact Or.inr (Or.inl rfl) | exact Or.inr (Or.inr rfl)) (hd : (x == ("__debug__" : Str)) = false := by decide)
    (hcd : (x == ("__classdict__" : Str)) = false := by decide) : DE X W (.Name x pos) (dVar i) := dv_of (pe_var hN hv hd hcd)
theorem dc_of {d : D} {v : V} {e : Expr} (h : PE X e (tC v)) (r : ∀ F, Rep X.K F d v) : DE X W e (dC d) := by
  refine PE.imp h fun σ H Q q => ?_
  obtain ⟨F, s, G, QD, ED, A, S, t, l⟩ := q
  exact l.ok F H d G v (.refl F H G) A (r F) t
theorem de_int {i j pos} : DE X W (.Constant (.int i) j pos) (dC (.int i)) := dc_of pe_int fun _ => .int i
theorem de_bl {b j pos} : DE X W (.Constant (.bool b) j pos) (dC (.bl b)) := dc_of pe_bl fun _ => .bl b
theorem de_non {j pos} : DE X W (.Constant .none j pos) (dC .non) := dc_of pe_non fun _ => .non
theorem de_str {x j pos} : DE X W (.Constant (.str x) j pos) (dC (.str x)) := dc_of pe_str fun _ => .str x
theorem de_glob {x : Str} {d : D} {v : V} {u : Value} {pos : Pos} (hg : Gl X x) (hm : X.mg x = some u) (rv : RelV v u) (r : ∀ F, Rep X.K F d v) (hd : (x == ("__debug__" : Str)) = false := by decide) : DE X W (.Name x pos) (dC d) :=
  dc_of (pe_glob hg hm rv hd) r
theorem de_bltn {x : Str} {d : D} {v : V} {u : Value} {pos : Pos} (hg : Gl X x) (hm : X.mg x = none) (hv : bootBuiltins x = some u) (rv : RelV v u) (r : ∀ F, Rep X.K F d v) (hn : x ≠ "__name__" := by decide)
    (hd : (x == ("__debug__" : Str)) = false := by decide) : DE X W (.Name x pos) (dC d) := dc_of (pe_bltn hg hm hv rv hn hd) r
end

/-! ### operations by values -/
abbrev R2D := D → D → GD → KD → Prop
def lift2 (K : PySem.W.Frag) (r : R2D) : R2 := fun x y H Q => ∃ F G d1 d2 QD, AbsH K F H G ∧ Rep K F d1 x ∧ Rep K F d2 y ∧ r d1 d2 G QD ∧ ∀ F' H' d G' v, Stp F H G F' H' G' → AbsH K F' H' G' → Rep K F' d v → QD d G' → Q v H'
def dOp (r : R2D) (ta tb : TDE) : TDE := fun s G Q E => ta s G (fun d1 G1 => tb s G1 (fun d2 G2 => r d1 d2 G2 Q) E) E
section
variable {X : Cx} {W : WX} {a b c : Expr} {ta tb tc : TDE} {pos : Pos}
/-- two expressions in a row, under any relation behind -/
theorem two_of {σ : L2.St} {H : Hp} {Q : VK} {r : R2} {rd : R2D} (hr : ∀ x y H Q, lift2 X.K rd x y H Q → r x y H Q) (q : liftE X.K W (dOp rd ta tb) σ H Q) : tOp r (liftE X.K W ta) (liftE X.K W tb) σ H Q := by
  obtain ⟨F, s, G, QD, ED, A, S, t, l⟩ := q
  refine ⟨F, s, G, _, ED, A, S, t, ⟨fun F1 H1 d1 G1 x st1 A1 r1 q1 => ?_, l.ex⟩⟩
  refine ⟨F1, s, G1, _, ED, A1, S.mono st1.le, q1, ⟨fun F2 H2 d2 G2 y st2 A2 r2 q2 => ?_, (l.mono st1).ex⟩⟩
  exact hr _ _ _ _ ⟨F2, G2, d1, d2, QD, A2, r1.mono st2.le, r2, q2, fun F3 H3 d G3 v st3 => l.ok F3 H3 d G3 v ((st1.trans st2).trans st3)⟩
theorem de_op {op : Operator} {r : R2} {rd : R2D} (ho : OpR X (binaryOp op) r) (hr : ∀ x y H Q, lift2 X.K rd x y H Q → r x y H Q) (ha : DE X W a ta) (hb : DE X W b tb) : DE X W (.BinOp a op b pos) (dOp rd ta tb) :=
  PE.imp (pe_op ho ha hb) fun _ _ _ q => two_of hr q
theorem de_cmpR {op : CmpOp} {r : R2} {rd : R2D} (ho : OpR X (compareOp op) r) (hr : ∀ x y H Q, lift2 X.K rd x y H Q → r x y H Q) (ha : DE X W a ta) (hb : DE X W b tb) (hm : behindInMarks op b = false) :
    DE X W (.Compare a [op] [b] pos) (dOp rd ta tb) := PE.imp (pe_cmpR ho ha hb hm) fun _ _ _ q => two_of hr q
/-- a value as a test, a bool -/
def dTest (t : TDE) : TDT := fun s G Q E => t s G (fun d G' => match d with
  | .bl k => Q k G'
  | _ => False) E
theorem test_of {t : TDE} {u : TE} (hu : ∀ σ H Q, liftE X.K W t σ H Q → u σ H Q) {σ : L2.St} {H : Hp} {Q : Bool → Hp → Prop} (q : liftT X.K W (dTest t) σ H Q) : u σ H (fun x H' => ∃ k, x = .bl k ∧ Q k H') := by
  obtain ⟨F, s, G, QD, ED, A, S, t, l⟩ := q
  refine hu _ _ _ ⟨F, s, G, _, ED, A, S, t, ⟨fun F1 H1 d1 G1 x st1 A1 r1 q1 => ?_, l.ex⟩⟩
  cases r1 with
  | bl k => exact ⟨k, rfl, l.ok F1 H1 k G1 st1 A1 q1⟩
  | _ => exact q1.elim
theorem dt_cmpR {op : CmpOp} {r : R2} {rd : R2D} (ho : OpR X (compareOp op) r) (hr : ∀ x y H Q, lift2 X.K rd x y H Q → r x y H Q) (ha : DE X W a ta) (hb : DE X W b tb) (hm : behindInMarks op b = false) :
    DT X W (.Compare a [op] [b] pos) (dTest (dOp rd ta tb)) := PT.imp (pt_cmpR ho ha hb hm) fun _ _ _ q => test_of (fun _ _ _ z => two_of hr z) q
/-- an expression whose value is a bool, as a test -/
theorem dt_val {e : Expr} {t : TDE} (h : DE X W e t) (he : ∀ whole, isTrue e X.env whole = (do let v ← whole; standAt e.pos; holding [v] (truthy v)) := by intro _; rfl) : DT X W e (dTest t) :=
  PT.imp (pt_val h he) fun _ _ _ q => test_of (fun _ _ _ z => z) q
end

/-! ### arithmetic -/
def addR : R2D := fun x y G Q => match x, y with
  | .int i, .int j => Q (.int (i + j)) G
  | .str i, .str j => i.length + j.length ≤ sizeLine ∧ Q (.str (i ++ j)) G
  | .tup i, .tup j => i.length + j.length ≤ sizeLine ∧ Q (.tup (i ++ j)) G
  | _, _ => False
def subR : R2D := fun x y G Q => match x, y with
  | .int i, .int j => Q (.int (i - j)) G
  | _, _ => False
/-- a product: below the line of bits -/
def mulR : R2D := fun x y G Q => match x, y with
  | .int i, .int j => IntMulOk i j ∧ Q (.int (i * j)) G
  | _, _ => False
/-- by a positive divisor below 2^9000 -/
def fdivR : R2D := fun x y G Q => match x, y with
  | .int i, .int j => CDivW i j ∧ Q (.int (i / j)) G
  | _, _ => False
def modR : R2D := fun x y G Q => match x, y with
  | .int i, .int j => 0 < j ∧ Q (.int (i % j)) G
  | _, _ => False
section
variable {X : Cx} {W : WX} {a b c : Expr} {ta tb tc : TDE} {pos : Pos}
theorem add_ok : OpR X (binaryOp .Add) (lift2 X.K addR) := by
  intro pins s σ H x y v u Q I rx ry h
  obtain ⟨F, G, d1, d2, QD, A, r1, r2, t, l⟩ := h
  unfold addR at t
  split at t
  · cases r1; cases r2
    exact op_add pins s σ H _ _ v u Q I rx ry ⟨_, _, rfl, rfl, l F H _ G _ (.refl F H G) A (.int _) t⟩
  · cases r1; cases r2
    exact op_add_str pins s σ H _ _ v u Q I rx ry ⟨_, _, rfl, rfl, t.1, l F H _ G _ (.refl F H G) A (.str _) t.2⟩
  · cases r1 with
    | tup h1 q1 =>
      cases r2 with
      | tup h2 q2 =>
        refine op_catA pins s σ H _ _ v u Q I rx ry ⟨_, _, _, _, rfl, rfl, A.sqT h1, A.sqT h2, by rw [← q1.length, ← q2.length]; exact t.1, fun e => ?_, fun _ e => ?_, fun _ _ p hp => ?_⟩
        · subst e
          cases q1
          exact l F H _ G _ (.refl F H G) A (.tup h2 q2) t.2
        · subst e
          cases q2
          exact l F H _ G _ (.refl F H G) A (.tup h1 q1) (by simpa using t.2)
        · refine l _ _ _ G _ (A.stpF hp) (A.laidF hp trivial) (.tup (.inl (.inl upd_same)) ((q1.mono (Le.upd (A.fnone hp))).append (q2.mono (Le.upd (A.fnone hp))))) t.2
  · exact t.elim
theorem de_add (ha : DE X W a ta) (hb : DE X W b tb) : DE X W (.BinOp a .Add b pos) (dOp addR ta tb) := de_op add_ok (fun _ _ _ _ q => q) ha hb
theorem de_sub (ha : DE X W a ta) (hb : DE X W b tb) : DE X W (.BinOp a .Sub b pos) (dOp subR ta tb) := de_op op_sub (fun x y H Q q => by
  obtain ⟨F, G, d1, d2, QD, A, r1, r2, t, l⟩ := q
  unfold subR at t
  split at t
  · cases r1; cases r2; exact ⟨_, _, rfl, rfl, l F H _ G _ (.refl F H G) A (.int _) t⟩
  · exact t.elim) ha hb
theorem de_mul (ha : DE X W a ta) (hb : DE X W b tb) : DE X W (.BinOp a .Mult b pos) (dOp mulR ta tb) := de_op (opI (C := IntMulOk) (g := fun i j => i * j) fun _ _ _ _ _ _ _ hc q => mul_int q hc) (fun x y H Q q => by
  obtain ⟨F, G, d1, d2, QD, A, r1, r2, t, l⟩ := q
  unfold mulR at t
  split at t
  · cases r1; cases r2; exact ⟨_, _, rfl, rfl, t.1, l F H _ G _ (.refl F H G) A (.int _) t.2⟩
  · exact t.elim) ha hb
theorem de_fdiv (ha : DE X W a ta) (hb : DE X W b tb) : DE X W (.BinOp a .FloorDiv b pos) (dOp fdivR ta tb) := de_op op_fdivW (fun x y H Q q => by
  obtain ⟨F, G, d1, d2, QD, A, r1, r2, t, l⟩ := q
  unfold fdivR at t
  split at t
  · cases r1; cases r2; exact ⟨_, _, rfl, rfl, t.1, l F H _ G _ (.refl F H G) A (.int _) t.2⟩
  · exact t.elim) ha hb
theorem de_mod (ha : DE X W a ta) (hb : DE X W b tb) : DE X W (.BinOp a .Mod b pos) (dOp modR ta tb) := de_op op_mod (fun x y H Q q => by
  obtain ⟨F, G, d1, d2, QD, A, r1, r2, t, l⟩ := q
  unfold modR at t
  split at t
  · cases r1; cases r2; exact ⟨_, _, rfl, rfl, t.1, l F H _ G _ (.refl F H G) A (.int _) t.2⟩
  · exact t.elim) ha hb
end
theorem CDivW.of {i j : Int} (h : 0 < j) (hb : j.natAbs < 2 ^ 1000) : CDivW i j := wide_div (b := 1000) h hb (by decide) (by decide)
theorem mul_small {i j : Int} (h1 : i.natAbs < 2 ^ 1000) (h2 : j.natAbs < 2 ^ 1000) : IntMulOk i j := (wide_mul (a := 1000) (b := 1000) h1 h2 (by decide) (by decide) (by decide)).ok
/-! ### comparisons of numbers -/
def cmpR (p : Int → Int → Bool) : R2D := fun x y G Q => match x, y with
  | .int i, .int j => Q (.bl (p i j)) G
  | _, _ => False
abbrev ltR : R2D := cmpR fun i j => decide (i < j)
abbrev leR : R2D := cmpR fun i j => decide (i ≤ j)
abbrev gtR : R2D := cmpR fun i j => decide (j < i)
abbrev geR : R2D := cmpR fun i j => decide (j ≤ i)
section
variable {X : Cx} {W : WX} {a b c d : Expr} {ta tb tc td : TDE} {pos : Pos}
theorem cmp_ok {f : Value → Value → Sem Value} {p : Int → Int → Bool} (h : OpR X f (rI0 fun i j => .bl (p i j))) : OpR X f (lift2 X.K (cmpR p)) := by
  intro pins s σ H x y v u Q I rx ry q
  refine h pins s σ H x y v u Q I rx ry ?_
  obtain ⟨F, G, d1, d2, QD, A, r1, r2, t, l⟩ := q
  unfold cmpR at t
  split at t
  · cases r1; cases r2; exact ⟨_, _, rfl, rfl, l F H _ G _ (.refl F H G) A (.bl _) t⟩
  · exact t.elim
theorem lt_ok : OpR X (compareOp .Lt) (lift2 X.K ltR) := cmp_ok op_lt
theorem le_ok : OpR X (compareOp .LtE) (lift2 X.K leR) := cmp_ok op_le
theorem gt_ok : OpR X (compareOp .Gt) (lift2 X.K gtR) := cmp_ok op_gt
theorem ge_ok : OpR X (compareOp .GtE) (lift2 X.K geR) := cmp_ok op_ge
theorem de_cmp {op : CmpOp} {rd : R2D} (ho : OpR X (compareOp op) (lift2 X.K rd)) (ha : DE X W a ta) (hb : DE X W b tb) (hm : behindInMarks op b = false) : DE X W (.Compare a [op] [b] pos) (dOp rd ta tb) := de_cmpR ho (fun _ _ _ _ q => q) ha hb hm
theorem dt_cmp {op : CmpOp} {rd : R2D} (ho : OpR X (compareOp op) (lift2 X.K rd)) (ha : DE X W a ta) (hb : DE X W b tb) (hm : behindInMarks op b = false) : DT X W (.Compare a [op] [b] pos) (dTest (dOp rd ta tb)) := dt_cmpR ho (fun _ _ _ _ q => q) ha hb hm
/-- is None, is not None -/
def isNR : R2D := fun x y G Q => match y with
  | .non => (match x with
    | .non => Q (.bl true) G
    | _ => Q (.bl false) G)
  | _ => False
def isNotNR : R2D := fun x y G Q => match y with
  | .non => (match x with
    | .non => Q (.bl false) G
    | _ => Q (.bl true) G)
  | _ => False
theorem rep_non {K : PySem.W.Frag} {F : Hp} {d : D} {v : V} (r : Rep K F d v) : decide (v = .non) = (match d with
    | .non => true
    | _ => false) := by
  cases r <;> simp
theorem isN_ok : OpR X (compareOp .Is) (lift2 X.K isNR) := by
  intro pins s σ H x y v u Q I rx ry q
  refine op_isN pins s σ H x y v u Q I rx ry ?_
  obtain ⟨F, G, d1, d2, QD, A, r1, r2, t, l⟩ := q
  unfold isNR at t
  split at t
  · cases r2
    refine ⟨rfl, ?_⟩
    rw [rep_non r1]
    cases r1 <;> exact l F H _ G _ (.refl F H G) A (.bl _) t
  · exact t.elim
theorem isNotN_ok : OpR X (compareOp .IsNot) (lift2 X.K isNotNR) := by
  intro pins s σ H x y v u Q I rx ry q
  refine op_notN pins s σ H x y v u Q I rx ry ?_
  obtain ⟨F, G, d1, d2, QD, A, r1, r2, t, l⟩ := q
  unfold isNotNR at t
  split at t
  · cases r2
    refine ⟨rfl, ?_⟩
    rw [rep_non r1]
    cases r1 <;> exact l F H _ G _ (.refl F H G) A (.bl _) t
  · exact t.elim
/-- a < b < c -/
def dChain (r r' : R2D) (ta tb tc : TDE) : TDE := fun s G Q E => ta s G (fun d1 G1 => tb s G1 (fun d2 G2 => r d1 d2 G2 fun z G3 => match z with
  | .bl k => if k = true then tc s G3 (fun d3 G4 => r' d2 d3 G4 Q) E else Q (.bl false) G3
  | _ => False) E) E
theorem chain_of {σ : L2.St} {H : Hp} {Q : VK} {r r' : R2D} (q : liftE X.K W (dChain r r' ta tb tc) σ H Q) : tChain (lift2 X.K r) (lift2 X.K r') (liftE X.K W ta) (liftE X.K W tb) (liftE X.K W tc) σ H Q := by
  obtain ⟨F, s, G, QD, ED, A, S, t, l⟩ := q
  refine ⟨F, s, G, _, ED, A, S, t, ⟨fun F1 H1 d1 G1 x st1 A1 r1 q1 => ?_, l.ex⟩⟩
  refine ⟨F1, s, G1, _, ED, A1, S.mono st1.le, q1, ⟨fun F2 H2 d2 G2 y st2 A2 r2 q2 => ?_, (l.mono st1).ex⟩⟩
  refine ⟨F2, G2, d1, d2, _, A2, r1.mono st2.le, r2, q2, fun F3 H3 d G3 v st3 A3 r3 q3 => ?_⟩
  have st := (st1.trans st2).trans st3
  cases r3 with
  | bl k =>
    refine ⟨k, rfl, ?_⟩
    cases k with
    | false =>
      rw [if_neg Bool.false_ne_true]
      have q3 : (if false = true then _ else QD (.bl false) G3) := q3
      rw [if_neg Bool.false_ne_true] at q3
      exact l.ok F3 H3 _ G3 _ st A3 (.bl _) q3
    | true =>
      rw [if_pos rfl]
      have q3 : (if true = true then tc s G3 (fun d3 G4 => r' d2 d3 G4 QD) ED else _) := q3
      rw [if_pos rfl] at q3
      refine ⟨F3, s, G3, _, ED, A3, S.mono st.le, q3, ⟨fun F4 H4 d3 G4 z st4 A4 r4 q4 => ?_, (l.mono st).ex⟩⟩
      exact ⟨F4, G4, d2, d3, QD, A4, r2.mono (st3.trans st4).le, r4, q4, fun F5 H5 d G5 v st5 => l.ok F5 H5 d G5 v ((st.trans st4).trans st5)⟩
  | _ => exact q3.elim
theorem de_chain {op op' : CmpOp} {r r' : R2D} (ho : OpR X (compareOp op) (lift2 X.K r)) (ho' : OpR X (compareOp op') (lift2 X.K r')) (ha : DE X W a ta) (hb : DE X W b tb) (hc : DE X W c tc)
    (hm : lastMarks [op, op'] [b, c] = false := by with_unfolding_all rfl) : DE X W (.Compare a [op, op'] [b, c] pos) (dChain r r' ta tb tc) := PE.imp (pe_chain ho ho' ha hb hc hm) fun _ _ _ q => chain_of q
theorem dt_chain {op op' : CmpOp} {r r' : R2D} (ho : OpR X (compareOp op) (lift2 X.K r)) (ho' : OpR X (compareOp op') (lift2 X.K r')) (ha : DE X W a ta) (hb : DE X W b tb) (hc : DE X W c tc)
    (hm : lastMarks [op, op'] [b, c] = false := by with_unfolding_all rfl) : DT X W (.Compare a [op, op'] [b, c] pos) (dTest (dChain r r' ta tb tc)) := PT.imp (pt_chain ho ho' ha hb hc hm) fun _ _ _ q => test_of (fun _ _ _ z => chain_of z) q
end

/-! ### and, or, not -/
def dAnd (t u : TDT) : TDT := fun s G Q E => t s G (fun c G1 => if c = true then u s G1 Q E else Q false G1) E
def dOr (t u : TDT) : TDT := fun s G Q E => t s G (fun c G1 => if c = true then Q true G1 else u s G1 Q E) E
def dNot (t : TDT) : TDT := fun s G Q E => t s G (fun c G1 => Q (!c) G1) E
def dAndV (ta tb : TDE) : TDE := fun s G Q E => ta s G (fun d G1 => match d with
  | .bl c => if c = true then tb s G1 Q E else Q (.bl false) G1
  | _ => False) E
def dOrV (ta tb : TDE) : TDE := fun s G Q E => ta s G (fun d G1 => match d with
  | .bl c => if c = true then Q (.bl true) G1 else tb s G1 Q E
  | _ => False) E
def dNotV (ta : TDE) : TDE := fun s G Q E => ta s G (fun d G1 => match d with
  | .bl c => Q (.bl (!c)) G1
  | _ => False) E
def dIf (t : TDT) (ta tb : TDE) : TDE := fun s G Q E => t s G (fun c G1 => if c = true then ta s G1 Q E else tb s G1 Q E) E
section
variable {X : Cx} {W : WX} {a b c : Expr} {ta tb : TDE} {t u : TDT} {rest : List Expr} {pos : Pos}
theorem dw_and1 (ha : DT X W a t) : DW X W (.BoolOp .And [a] pos) t := pw_and1 ha
theorem dw_or1 (ha : DT X W a t) : DW X W (.BoolOp .Or [a] pos) t := pw_or1 ha
theorem dw_and (ha : DT X W a t) (hb : DW X W (.BoolOp .And (b :: rest) pos) u) : DW X W (.BoolOp .And (a :: b :: rest) pos) (dAnd t u) := PW.imp (pw_and ha hb) fun σ H Q q => by
  obtain ⟨F, s, G, QD, ED, A, S, t, l⟩ := q
  refine ⟨F, s, G, _, ED, A, S, t, ⟨fun F1 H1 c G1 st1 A1 q1 => ?_, l.ex⟩⟩
  cases c with
  | true => exact iteT ⟨F1, s, G1, QD, ED, A1, S.mono st1.le, untT q1, l.mono st1⟩
  | false => exact iteF (l.ok F1 H1 false G1 st1 A1 (untF q1))
theorem dw_or (ha : DT X W a t) (hb : DW X W (.BoolOp .Or (b :: rest) pos) u) : DW X W (.BoolOp .Or (a :: b :: rest) pos) (dOr t u) := PW.imp (pw_or ha hb) fun σ H Q q => by
  obtain ⟨F, s, G, QD, ED, A, S, t, l⟩ := q
  refine ⟨F, s, G, _, ED, A, S, t, ⟨fun F1 H1 c G1 st1 A1 q1 => ?_, l.ex⟩⟩
  cases c with
  | false => exact iteF ⟨F1, s, G1, QD, ED, A1, S.mono st1.le, untF q1, l.mono st1⟩
  | true => exact iteT (l.ok F1 H1 true G1 st1 A1 (untT q1))
theorem dt_w (h : DW X W a t) : DT X W a t := PW.pt h
theorem dt_not (ha : DT X W a t) : DT X W (.UnaryOp .Not a pos) (dNot t) := PT.imp (pt_not ha) fun σ H Q q => by
  obtain ⟨F, s, G, QD, ED, A, S, t, l⟩ := q
  exact ⟨F, s, G, _, ED, A, S, t, ⟨fun F1 H1 c G1 st1 A1 q1 => l.ok F1 H1 (!c) G1 st1 A1 q1, l.ex⟩⟩
theorem de_one {op} (h : DE X W a ta) : DE X W (.BoolOp op [a] pos) ta := pe_one h
theorem de_and (ha : DE X W a ta) (hb : DE X W (.BoolOp .And (b :: rest) pos) tb) : DE X W (.BoolOp .And (a :: b :: rest) pos) (dAndV ta tb) := PE.imp (pe_and ha hb) fun σ H Q q => by
  obtain ⟨F, s, G, QD, ED, A, S, t, l⟩ := q
  refine ⟨F, s, G, _, ED, A, S, t, ⟨fun F1 H1 d G1 v st1 A1 r1 q1 => ?_, l.ex⟩⟩
  cases r1 with
  | bl c =>
    refine ⟨c, rfl, ?_⟩
    cases c with
    | true => exact iteT ⟨F1, s, G1, QD, ED, A1, S.mono st1.le, untT q1, l.mono st1⟩
    | false => exact iteF (l.ok F1 H1 _ G1 _ st1 A1 (.bl _) (untF q1))
  | _ => exact q1.elim
theorem de_or (ha : DE X W a ta) (hb : DE X W (.BoolOp .Or (b :: rest) pos) tb) : DE X W (.BoolOp .Or (a :: b :: rest) pos) (dOrV ta tb) := PE.imp (pe_or ha hb) fun σ H Q q => by
  obtain ⟨F, s, G, QD, ED, A, S, t, l⟩ := q
  refine ⟨F, s, G, _, ED, A, S, t, ⟨fun F1 H1 d G1 v st1 A1 r1 q1 => ?_, l.ex⟩⟩
  cases r1 with
  | bl c =>
    refine ⟨c, rfl, ?_⟩
    cases c with
    | false => exact iteF ⟨F1, s, G1, QD, ED, A1, S.mono st1.le, untF q1, l.mono st1⟩
    | true => exact iteT (l.ok F1 H1 _ G1 _ st1 A1 (.bl _) (untT q1))
  | _ => exact q1.elim
theorem de_not (ha : DE X W a ta) : DE X W (.UnaryOp .Not a pos) (dNotV ta) := PE.imp (pe_not ha) fun σ H Q q => by
  obtain ⟨F, s, G, QD, ED, A, S, t, l⟩ := q
  refine ⟨F, s, G, _, ED, A, S, t, ⟨fun F1 H1 d G1 v st1 A1 r1 q1 => ?_, l.ex⟩⟩
  cases r1 with
  | bl c => exact ⟨c, rfl, l.ok F1 H1 _ G1 _ st1 A1 (.bl _) q1⟩
  | _ => exact q1.elim
theorem de_ifExp (hc : DT X W c t) (ha : DE X W a ta) (hb : DE X W b tb) : DE X W (.IfExp c a b pos) (dIf t ta tb) := PE.imp (pe_ifExp hc ha hb) fun σ H Q q => by
  obtain ⟨F, s, G, QD, ED, A, S, t, l⟩ := q
  refine ⟨F, s, G, _, ED, A, S, t, ⟨fun F1 H1 c G1 st1 A1 q1 => ?_, l.ex⟩⟩
  cases c with
  | true => exact iteT ⟨F1, s, G1, QD, ED, A1, S.mono st1.le, untT q1, l.mono st1⟩
  | false => exact iteF ⟨F1, s, G1, QD, ED, A1, S.mono st1.le, untF q1, l.mono st1⟩
end

/-! ### argument lists, displays -/
def dNil : TDA := fun _ G Q _ => Q [] G
def dCons (ta : TDE) (tr : TDA) : TDA := fun s G Q E => ta s G (fun d G1 => tr s G1 (fun ds G2 => Q (d :: ds) G2) E) E
def dTup (t : TDA) : TDE := fun s G Q E => t s G (fun ds G1 => ds.length ≤ sizeLine ∧ Q (.tup ds) G1) E
/-- a list that is frozen at once; one that may be changed -/
def dLst (t : TDA) : TDE := fun s G Q E => t s G (fun ds G1 => ds.length ≤ sizeLine ∧ Q (.lst ds) G1) E
def dLstM (t : TDA) : TDE := fun s G Q E => t s G (fun ds G1 => ds.length ≤ sizeLine ∧ ∀ p, G1 p = none → Q (.ref p) (put G1 p (.lst ds))) E
section
variable {X : Cx} {W : WX} {e : Expr} {es : List Expr} {te : TDE} {t : TDA} {pos : Pos}
theorem da_nil : DA X W [] dNil := PA.imp pa_nil fun σ H Q q => by
  obtain ⟨F, s, G, QD, ED, A, S, t, l⟩ := q
  exact l.ok F H [] G [] (.refl F H G) A .nil t
theorem da_cons (ha : DE X W e te) (hr : DA X W es t) (hs : starEach (e :: es) X.env = (false, eval e X.env) :: starEach es X.env := by rfl) : DA X W (e :: es) (dCons te t) := PA.imp (pa_cons ha hr hs) fun σ H Q q => by
  obtain ⟨F, s, G, QD, ED, A, S, t, l⟩ := q
  refine ⟨F, s, G, _, ED, A, S, t, ⟨fun F1 H1 d G1 v st1 A1 r1 q1 => ?_, l.ex⟩⟩
  refine ⟨F1, s, G1, _, ED, A1, S.mono st1.le, q1, ⟨fun F2 H2 ds G2 vs st2 A2 r2 q2 => ?_, (l.mono st1).ex⟩⟩
  exact l.ok F2 H2 _ G2 _ (st1.trans st2) A2 (.cons (r1.mono st2.le) r2) q2
/-- *xs in a display or a call: a tuple or a list -/
def dStar (te : TDE) (t : TDA) : TDA := fun s G Q E => te s G (fun d G1 => match d with
  | .tup xs => t s G1 (fun ys G2 => Q (xs ++ ys) G2) E
  | .lst xs => t s G1 (fun ys G2 => Q (xs ++ ys) G2) E
  | _ => False) E
theorem da_star {p : Pos} (he : DE X W e te) (hr : DA X W es t) (hs : starEach (.Starred e p :: es) X.env = (true, eval e X.env) :: starEach es X.env := by rfl) : DA X W (.Starred e p :: es) (dStar te t) := PA.imp (StX.pa_star he hr hs) fun σ H Q q => by
  obtain ⟨F, s, G, QD, ED, A, S, t, l⟩ := q
  refine ⟨F, s, G, _, ED, A, S, t, ⟨fun F1 H1 d G1 v st1 A1 r1 q1 => ?_, l.ex⟩⟩
  cases r1 with
  | tup h1 rs =>
    refine ⟨_, _, rfl, .inl (A1.sqT h1), F1, s, G1, _, ED, A1, S.mono st1.le, q1, ⟨fun F2 H2 ds G2 vs st2 A2 r2 q2 => ?_, (l.mono st1).ex⟩⟩
    exact l.ok F2 H2 _ G2 _ (st1.trans st2) A2 ((rs.mono st2.le).append r2) q2
  | lst h1 rs =>
    refine ⟨_, _, rfl, .inr (A1.sqL h1), F1, s, G1, _, ED, A1, S.mono st1.le, q1, ⟨fun F2 H2 ds G2 vs st2 A2 r2 q2 => ?_, (l.mono st1).ex⟩⟩
    exact l.ok F2 H2 _ G2 _ (st1.trans st2) A2 ((rs.mono st2.le).append r2) q2
  | _ => exact q1.elim
theorem de_tup {x1} (h : DA X W es t) : DE X W (.Tuple es x1 pos) (dTup t) := PE.imp (pe_tup h) fun σ H Q q => by
  obtain ⟨F, s, G, QD, ED, A, S, t, l⟩ := q
  refine ⟨F, s, G, _, ED, A, S, t, ⟨fun F1 H1 ds G1 vs st1 A1 r1 q1 => ?_, l.ex⟩⟩
  refine ⟨by rw [← r1.length]; exact q1.1, fun p hp => ?_⟩
  exact l.ok _ _ _ G1 _ (st1.trans (A1.stpF hp)) (A1.laidF hp trivial) (.tup (.inl (.inl upd_same)) (r1.mono (Le.upd (A1.fnone hp)))) q1.2
theorem de_lst (h : DA X W es t) : DE X W (.List es pos) (dLst t) := PE.imp (pe_lst h) fun σ H Q q => by
  obtain ⟨F, s, G, QD, ED, A, S, t, l⟩ := q
  refine ⟨F, s, G, _, ED, A, S, t, ⟨fun F1 H1 ds G1 vs st1 A1 r1 q1 => ?_, l.ex⟩⟩
  refine ⟨by rw [← r1.length]; exact q1.1, fun p hp => ?_⟩
  exact l.ok _ _ _ G1 _ (st1.trans (A1.stpF hp)) (A1.laidF hp trivial) (.lst upd_same (r1.mono (Le.upd (A1.fnone hp)))) q1.2
theorem de_lstM (h : DA X W es t) : DE X W (.List es pos) (dLstM t) := PE.imp (pe_lst h) fun σ H Q q => by
  obtain ⟨F, s, G, QD, ED, A, S, t, l⟩ := q
  refine ⟨F, s, G, _, ED, A, S, t, ⟨fun F1 H1 ds G1 vs st1 A1 r1 q1 => ?_, l.ex⟩⟩
  refine ⟨by rw [← r1.length]; exact q1.1, fun p hp => ?_⟩
  exact l.ok _ _ _ _ _ (st1.trans (stp_new hp)) (A1.laidG (g := .lst ds) hp ⟨_, upd_same, r1⟩) (.ref p) (q1.2 p (A1.gnone hp))
end

/-! ### subscripts, slices -/
/-- the items of a thing that is a sequence: a tree, or one that may be changed -/
def seqOf (d : D) (G : GD) : Option (List D) := match d with
  | .tup xs => some xs
  | .lst xs => some xs
  | .scr xs => some xs
  | .ref a => (match G a with
    | some (.lst xs) => some xs
    | _ => none)
  | _ => none
theorem rep_seq {K : PySem.W.Frag} {F H : Hp} {G : GD} {d : D} {v : V} {xs : List D} (A : AbsH K F H G) (r : Rep K F d v) (h : seqOf d G = some xs) : ∃ p vs, v = .ref p ∧ Reps K F xs vs ∧ (SqL K H p vs ∨ SqT K H p vs) := by
  cases r with
  | tup h1 rs => cases h; exact ⟨_, _, rfl, rs, .inr (A.sqT h1)⟩
  | lst h1 rs => cases h; exact ⟨_, _, rfl, rs, .inl (A.sqL h1)⟩
  | scr h1 rs => cases h; exact ⟨_, _, rfl, rs, .inl (A.sqLK h1)⟩
  | ref a =>
    have h : (match G a with
      | some (.lst xs) => some xs
      | _ => none) = some xs := h
    cases e : G a with
    | none => rw [e] at h; cases h
    | some o =>
      rw [e] at h
      cases o with
      | lst ys =>
        cases h
        obtain ⟨_, vs, e2, rs⟩ := A.obj a _ e
        exact ⟨_, _, rfl, rs, .inl (SqL.of e2)⟩
      | _ => cases h
  | _ => cases h
/-- x[i]: a tuple, a list, a text -/
def ixR : R2D := fun x y G Q => match y with
  | .int i => (match x with
    | .str z => z.length ≤ sizeLine ∧ ∃ c, atI z.cps.toList i = some c ∧ Q (.str ⟨#[c]⟩) G
    | _ => ∃ xs d, seqOf x G = some xs ∧ atI xs i = some d ∧ Q d G)
  | _ => False
theorem atI_rep {K : PySem.W.Frag} {F : Hp} {xs : List D} {vs : List V} {i : Int} {d : D} (r : Reps K F xs vs) (h : atI xs i = some d) : ∃ v, atI vs i = some v ∧ Rep K F d v := by
  unfold atI at h ⊢
  rw [← r.length]
  cases e : ixN xs.length i with
  | none => rw [e] at h; cases h
  | some j =>
    rw [e] at h
    exact r.get h
section
variable {X : Cx} {W : WX} {a b c : Expr} {ta tb tc : TDE} {pos : Pos}
theorem ix_ok (x y : V) (H : Hp) (Q : VK) (q : lift2 X.K ixR x y H Q) : rIx X.K x y H Q := by
  obtain ⟨F, G, d1, d2, QD, A, r1, r2, t, l⟩ := q
  unfold ixR at t
  split at t
  · rename_i i
    cases r2
    split at t
    · cases r1
      obtain ⟨hz, c, hc, q⟩ := t
      exact .inr (.inr ⟨_, _, c, rfl, rfl, hz, hc, l F H _ G _ (.refl F H G) A (.str _) q⟩)
    · obtain ⟨xs, d, hx, hd, q⟩ := t
      obtain ⟨p, vs, rfl, rs, sq⟩ := rep_seq A r1 hx
      obtain ⟨v, hv, rv⟩ := atI_rep rs hd
      have fin := l F H _ G _ (.refl F H G) A rv q
      rcases sq with sq | sq
      · exact .inl ⟨_, _, _, v, rfl, rfl, sq, hv, fin⟩
      · exact .inr (.inl ⟨_, _, _, v, rfl, rfl, sq, hv, fin⟩)
  · exact t.elim
theorem de_ix (ha : DE X W a ta) (hb : DE X W b tb) (hs : PlainIx b := by exact fun _ _ => rfl) : DE X W (.Subscript a b pos) (dOp ixR ta tb) := PE.imp (pe_ix ix_seq ha hb hs) fun _ _ _ q => two_of ix_ok q
end
def cutD (xs : List D) (lo hi : Option Int) : List D := (xs.drop (HT.sIx xs.length 0 lo)).take (HT.sIx xs.length xs.length hi - HT.sIx xs.length 0 lo)
theorem cut_rep {K : PySem.W.Frag} {F : Hp} {xs : List D} {vs : List V} {lo hi : Option Int} (r : Reps K F xs vs) : Reps K F (cutD xs lo hi) (cutV vs lo hi) := by
  unfold cutD cutV
  rw [← r.length]
  exact (r.drop _).take _
abbrev TDO := SD → GD → (Option Int → GD → Prop) → XD → Prop
def dNoPart : TDO := fun _ G Q _ => Q none G
def dPart (t : TDE) : TDO := fun s G Q E => t s G (fun d G1 => match d with
  | .int i => Q (some i) G1
  | _ => False) E
structure LinkO (K : PySem.W.Frag) (F H : Hp) (G : GD) (σ : L2.St) (QD : Option Int → GD → Prop) (ED : XD) (Q : Option Int → Hp → Prop) (W : WX) : Prop where
  ok : ∀ F' H' b G', Stp F H G F' H' G' → AbsH K F' H' G' → QD b G' → Q b H'
  ex : ∀ F' H' cls dx fs s' G', Stp F H G F' H' G' → AbsH K F' H' G' → Slots K F' σ s' → RepX K F' H' dx fs → ED cls fs s' G' → W cls dx σ H'
def liftO (K : PySem.W.Frag) (W : WX) (t : TDO) : TO := fun σ H Q => ∃ F s G QD ED, AbsH K F H G ∧ Slots K F σ s ∧ t s G QD ED ∧ LinkO K F H G σ QD ED Q W
def DO (X : Cx) (W : WX) (e : Option Expr) (t : TDO) : Prop := PO X e (liftO X.K W t)
theorem PO.imp {X : Cx} {e : Option Expr} {t t' : TO} (h : PO X e t) (i : ∀ σ H Q, t' σ H Q → t σ H Q) : PO X e t' := ⟨fun pins s σ H Q I q => h.run pins s σ H Q I (i σ H Q q)⟩
/-- x[lo:hi] of a tuple, a text; of a list, frozen -/
def slR (x : D) (lo hi : Option Int) (G : GD) (Q : KD) : Prop := match x with
  | .tup xs => Q (.tup (cutD xs lo hi)) G
  | .str z => z.length ≤ sizeLine ∧ Q (.str (cutS z lo hi)) G
  | _ => ∃ xs, seqOf x G = some xs ∧ Q (.lst (cutD xs lo hi)) G
def dSl (t : TDE) (tl th : TDO) : TDE := fun s G Q E => t s G (fun d G1 => tl s G1 (fun lo G2 => th s G2 (fun hi G3 => slR d lo hi G3 Q) E) E) E
section
variable {X : Cx} {W : WX} {e : Expr} {te : TDE} {lo hi : Option Expr} {tl th : TDO} {pos p2 : Pos}
theorem do_none : DO X W none dNoPart := PO.imp po_none fun σ H Q q => by
  obtain ⟨F, s, G, QD, ED, A, S, t, l⟩ := q
  exact l.ok F H none G (.refl F H G) A t
theorem do_some (h : DE X W e te) : DO X W (some e) (dPart te) := PO.imp (po_some h) fun σ H Q q => by
  obtain ⟨F, s, G, QD, ED, A, S, t, l⟩ := q
  refine ⟨F, s, G, _, ED, A, S, t, ⟨fun F1 H1 d G1 v st1 A1 r1 q1 => ?_, l.ex⟩⟩
  cases r1 with
  | int i => exact ⟨i, rfl, l.ok F1 H1 _ G1 st1 A1 q1⟩
  | _ => exact q1.elim
theorem de_slice (he : DE X W e te) (hl : DO X W lo tl) (hu : DO X W hi th) : DE X W (.Subscript e (.Slice lo hi none p2) pos) (dSl te tl th) := PE.imp (pe_slice (sl_tupA.or (sl_list.or sl_str)) he hl hu) fun σ H Q q => by
  obtain ⟨F, s, G, QD, ED, A, S, t, l⟩ := q
  refine ⟨F, s, G, _, ED, A, S, t, ⟨fun F1 H1 d G1 v st1 A1 r1 q1 => ?_, l.ex⟩⟩
  refine ⟨F1, s, G1, _, ED, A1, S.mono st1.le, q1, ⟨fun F2 H2 lo G2 st2 A2 q2 => ?_, (l.mono st1).ex⟩⟩
  have st12 := st1.trans st2
  refine ⟨F2, s, G2, _, ED, A2, S.mono st12.le, q2, ⟨fun F3 H3 hi G3 st3 A3 q3 => ?_, (l.mono st12).ex⟩⟩
  have st := st12.trans st3
  have r3 := r1.mono (st2.trans st3).le
  unfold slR at q3
  split at q3
  · cases r3 with
    | tup h1 rs =>
      refine .inl ⟨_, _, rfl, A3.sqT h1, fun e => ?_, fun _ p hp => ?_⟩
      · have e2 := cut_rep (lo := lo) (hi := hi) rs
        unfold cutV at e2
        rw [e.1, e.2] at e2
        simp only [List.drop_zero, Nat.sub_zero, List.take_length] at e2
        exact l.ok _ _ _ G3 _ st A3 (.tup h1 e2) q3
      · exact l.ok _ _ _ G3 _ (st.trans (A3.stpF hp)) (A3.laidF hp trivial) (.tup (.inl (.inl upd_same)) ((cut_rep rs).mono (Le.upd (A3.fnone hp)))) q3
  · cases r3
    exact .inr (.inr ⟨_, rfl, q3.1, l.ok _ _ _ G3 _ st A3 (.str _) q3.2⟩)
  · obtain ⟨xs, hx, q⟩ := q3
    rename_i nt _
    have hT : ∃ p vs, v = .ref p ∧ Reps X.K F3 xs vs ∧ SqL X.K H3 p vs := by
      cases r3 with
      | tup h1 rs => exact (nt _ rfl).elim
      | lst h1 rs => cases hx; exact ⟨_, _, rfl, rs, A3.sqL h1⟩
      | scr h1 rs => cases hx; exact ⟨_, _, rfl, rs, A3.sqLK h1⟩
      | ref a =>
        have hx : (match G3 a with
          | some (.lst xs) => some xs
          | _ => none) = some xs := hx
        cases e : G3 a with
        | none => rw [e] at hx; cases hx
        | some o =>
          rw [e] at hx
          cases o with
          | lst ys =>
            cases hx
            obtain ⟨_, vs, e2, rs⟩ := A3.obj a _ e
            exact ⟨_, _, rfl, rs, SqL.of e2⟩
          | _ => cases hx
      | _ => cases hx
    obtain ⟨p0, vs, rfl, rs, sq⟩ := hT
    refine .inr (.inl ⟨_, _, rfl, sq, fun p hp => ?_⟩)
    exact l.ok _ _ _ G3 _ (st.trans (A3.stpF hp)) (A3.laidF hp trivial) (.lst upd_same ((cut_rep rs).mono (Le.upd (A3.fnone hp)))) q
end

/-! ### blocks -/
def sNext : TDS := fun D s G => D.nx s G
def sSeq (t u : TDS) : TDS := fun D s G => t { D with nx := u D } s G
def sDrop (te : TDE) : TDS := fun D s G => te s G (fun _ G1 => D.nx s G1) D.ex
def sRet (te : TDE) : TDS := fun D s G => te s G D.rt D.ex
def sIf (c : TDT) (t u : TDS) : TDS := fun D s G => c s G (fun b G1 => if b = true then t D s G1 else u D s G1) D.ex
/-- forgetting, freezing ahead of a statement -/
def sGh (K : PySem.W.Frag) (t : TDS) : TDS := fun D s G => ∃ s' G', CanS K s G s' G' ∧ t D s' G'
section
variable {X : Cx} {W : WX} {st : Stmt} {rest : List Stmt} {t u : TDS} {e : Expr} {te : TDE} {pos : Pos}
theorem dss_nil : DSs X W [] sNext := PSs.imp pss_nil fun Dn σ H q => by
  obtain ⟨F, s, G, DD, A, S, t, l⟩ := q
  exact l.nx F H s G σ (.refl F H G) A S t
theorem link_seq {F H : Hp} {G : GD} {DD : EndsD} {Dn : Ends} (l : LinkS X.K F H G DD Dn W) : LinkS X.K F H G { DD with nx := u DD } { Dn with nx := liftS X.K W u Dn } W :=
  ⟨fun F' H' s' G' σ' st A S q => ⟨F', s', G', DD, A, S, q, l.mono st⟩, l.rt, l.bk, l.ct, l.ex⟩
theorem dss_cons (h1 : DS X W st t) (h2 : DSs X W rest u) : DSs X W (st :: rest) (sSeq t u) := PSs.imp (pss_cons h1 h2) fun Dn σ H q => by
  obtain ⟨F, s, G, DD, A, S, t, l⟩ := q
  exact ⟨F, s, G, _, A, S, t, link_seq l⟩
theorem dss_one (h1 : DS X W st t) : DSs X W [st] t := pss_one h1
theorem ds_gh {K : PySem.W.Frag} (h : DS X W st t) (hK : X.K = K := by rfl) : DS X W st (sGh K t) := PS.imp h fun Dn σ H q => by
  subst hK
  obtain ⟨F, s, G, DD, A, S, ⟨s', G', c, t⟩, l⟩ := q
  obtain ⟨F', le, A', S'⟩ := c F H σ A S
  exact ⟨F', s', G', DD, A', S', t, l.mono le⟩
theorem ds_pass : DS X W (.Pass pos) sNext := PS.imp ps_pass fun Dn σ H q => by
  obtain ⟨F, s, G, DD, A, S, t, l⟩ := q
  exact l.nx F H s G σ (.refl F H G) A S t
def sBreak : TDS := fun D s G => D.bk s G
def sCont : TDS := fun D s G => D.ct s G
theorem ds_break : DS X W (.Break pos) sBreak := PS.imp ps_break fun Dn σ H q => by
  obtain ⟨F, s, G, DD, A, S, t, l⟩ := q
  exact l.bk F H s G σ (.refl F H G) A S t
theorem ds_continue : DS X W (.Continue pos) sCont := PS.imp ps_continue fun Dn σ H q => by
  obtain ⟨F, s, G, DD, A, S, t, l⟩ := q
  exact l.ct F H s G σ (.refl F H G) A S t
def sNever : TDS := fun _ _ _ => False
theorem ds_never : DS X W st sNever := PS.imp ps_never fun Dn σ H q => by
  obtain ⟨F, s, G, DD, A, S, t, l⟩ := q
  exact t
theorem dss_never {sts : List Stmt} : DSs X W sts sNever := PSs.imp pss_never fun Dn σ H q => by
  obtain ⟨F, s, G, DD, A, S, t, l⟩ := q
  exact t
theorem ds_expr (he : DE X W e te) (hs : swapsWith e none pos.line X.env = pure false := by rfl) : DS X W (.Expr e pos) (sDrop te) := PS.imp (ps_expr he hs) fun Dn σ H q => by
  obtain ⟨F, s, G, DD, A, S, t, l⟩ := q
  exact ⟨F, s, G, _, _, A, S, t, ⟨fun F1 H1 d G1 v st1 A1 r1 q1 => l.nx F1 H1 s G1 σ st1 A1 (S.mono st1.le) q1, fun F1 H1 c dx fs s' G' st A' S' => l.ex F1 H1 c dx fs s' G' σ st A' S'⟩⟩
theorem ds_ret (he : DE X W e te) : DS X W (.Return (some e) pos) (sRet te) := PS.imp (ps_ret he) fun Dn σ H q => by
  obtain ⟨F, s, G, DD, A, S, t, l⟩ := q
  exact ⟨F, s, G, _, _, A, S, t, ⟨l.rt, fun F1 H1 c dx fs s' G' st A' S' => l.ex F1 H1 c dx fs s' G' σ st A' S'⟩⟩
def sRetN : TDS := fun D _ G => D.rt .non G
theorem ds_retN : DS X W (.Return none pos) sRetN := PS.imp ps_retN fun Dn σ H q => by
  obtain ⟨F, s, G, DD, A, S, t, l⟩ := q
  exact l.rt F H _ G _ (.refl F H G) A .non t
theorem ds_if {c : Expr} {a b : List Stmt} {tc : TDT} (hc : DT X W c tc) (ha : DSs X W a t) (hb : DSs X W b u) : DS X W (.If c a b pos) (sIf tc t u) := PS.imp (ps_if hc ha hb) fun Dn σ H q => by
  obtain ⟨F, s, G, DD, A, S, t, l⟩ := q
  refine ⟨F, s, G, _, _, A, S, t, ⟨fun F1 H1 c G1 st1 A1 q1 => ?_, fun F1 H1 c dx fs s' G' st A' S' => l.ex F1 H1 c dx fs s' G' σ st A' S'⟩⟩
  cases c with
  | true => exact iteT ⟨F1, s, G1, DD, A1, S.mono st1.le, untT q1, l.mono st1⟩
  | false => exact iteF ⟨F1, s, G1, DD, A1, S.mono st1.le, untF q1, l.mono st1⟩
end
/-! ### targets -/
abbrev TDG := D → SD → GD → (SD → GD → Prop) → Prop
abbrev TDGs := List D → SD → GD → (SD → GD → Prop) → Prop
def liftG (K : PySem.W.Frag) (t : TDG) : TG := fun v σ H Q => ∃ F s G d QD, AbsH K F H G ∧ Slots K F σ s ∧ Rep K F d v ∧ t d s G QD ∧ ∀ F' H' s' G' σ', Stp F H G F' H' G' → AbsH K F' H' G' → Slots K F' σ' s' → QD s' G' → Q σ' H'
def liftGs (K : PySem.W.Frag) (t : TDGs) : TGs := fun vs σ H Q => ∃ F s G ds QD, AbsH K F H G ∧ Slots K F σ s ∧ Reps K F ds vs ∧ t ds s G QD ∧ ∀ F' H' s' G' σ', Stp F H G F' H' G' → AbsH K F' H' G' → Slots K F' σ' s' → QD s' G' → Q σ' H'
def DG (X : Cx) (e : Expr) (t : TDG) : Prop := PG X e (liftG X.K t)
def DGs (X : Cx) (es : List Expr) (t : TDGs) : Prop := PGs X es (liftGs X.K t)
theorem PG.imp {X : Cx} {e : Expr} {t t' : TG} (h : PG X e t) (i : ∀ v σ H Q, t' v σ H Q → t v σ H Q) : PG X e t' := ⟨fun pins s σ H v u Q I r q => h.run pins s σ H v u Q I r (i v σ H Q q)⟩
theorem PGs.imp {X : Cx} {e : List Expr} {t t' : TGs} (h : PGs X e t) (i : ∀ v σ H Q, t' v σ H Q → t v σ H Q) : PGs X e t' := ⟨fun pins s σ H v u Q I r q => h.run pins s σ H v u Q I r (i v σ H Q q)⟩
def gNm (i : Nat) : TDG := fun d s G Q => Q (s.set i (some d)) G
def gsNil : TDGs := fun ds s G Q => match ds with
  | [] => Q s G
  | _ => False
def gsCons (t : TDG) (u : TDGs) : TDGs := fun ds s G Q => match ds with
  | d :: r => t d s G fun s' G' => u r s' G' Q
  | [] => False
/-- (a, b, ..) = a tuple of that length -/
def gTp (n : Nat) (t : TDGs) : TDG := fun d s G Q => match d with
  | .tup xs => xs.length = n ∧ t xs s G Q
  | _ => False
section
variable {X : Cx} {W : WX} {pos : Pos}
theorem dg_name {i : Nat} {x : Str} (hN : X.N.Nodup) (hi : X.N[i]? = some x) (hx : Loc X.env.scope x) (hf : X.fn x = true ∨ X.env.scope.names.lookup x = some .local := by first | exact .inl rfl | exact .inr rfl | assumption) : DG X (.Name x pos) (gNm i) :=
  PG.imp (pg_name hN hi hx hf) fun v σ H Q q => by
    obtain ⟨F, s, G, d, QD, A, S, r, t, l⟩ := q
    exact l F H _ G _ (.refl F H G) A (S.set r) t
theorem dgs_nil : DGs X [] gsNil := PGs.imp pgs_nil fun v σ H Q q => by
  obtain ⟨F, s, G, ds, QD, A, S, r, t, l⟩ := q
  cases r with
  | nil => exact ⟨rfl, l F H _ G _ (.refl F H G) A S t⟩
  | cons _ _ => exact t.elim
theorem dgs_cons {e : Expr} {es : List Expr} {t : TDG} {u : TDGs} (h1 : DG X e t) (h2 : DGs X es u)
    (hs : (assignEach (e :: es) X.env).map (·.2) = assign e X.env :: (assignEach es X.env).map (·.2) := by rfl) : DGs X (e :: es) (gsCons t u) := PGs.imp (pgs_cons h1 h2 hs) fun v σ H Q q => by
  obtain ⟨F, s, G, ds, QD, A, S, r, t, l⟩ := q
  cases r with
  | nil => exact t.elim
  | cons r1 r2 =>
    refine ⟨_, _, rfl, F, s, G, _, _, A, S, r1, t, fun F1 H1 s1 G1 σ1 st1 A1 S1 q1 => ?_⟩
    exact ⟨F1, s1, G1, _, QD, A1, S1, r2.mono st1.le, q1, fun F2 H2 s2 G2 σ2 st2 => l F2 H2 s2 G2 σ2 (st1.trans st2)⟩
theorem dg_tup {es : List Expr} {k : Nat} {t : TDGs} {n : Nat} (hc : X.calm = true) (h : DGs X es t)
    (hn : (assignEach es X.env).length = n := by rfl) (hst : (assignEach es X.env).findIdx? (·.1) = none := by rfl) : DG X (.Tuple es k pos) (gTp n t) := PG.imp (pg_tup hc h hn hst) fun v σ H Q q => by
  obtain ⟨F, s, G, d, QD, A, S, r, t, l⟩ := q
  cases r with
  | tup h1 rs => exact ⟨_, _, rfl, A.sqT h1, by rw [← rs.length]; exact t.1, F, s, G, _, QD, A, S, rs, t.2, l⟩
  | _ => exact t.elim
def sAsg (te : TDE) (g : TDG) : TDS := fun D s G => te s G (fun d G1 => g d s G1 D.nx) D.ex
theorem ds_asg {tg e : Expr} {te : TDE} {g : TDG} (he : DE X W e te) (hg : DG X tg g) (hs : swapsWithSole [tg] e pos.line X.env = pure false := by rfl) (hw : swappedStores [tg] e X.env = pure none := by rfl)
    (h1 : (assignEach [tg] X.env).map (·.2) = [assign tg X.env] := by rfl) : DS X W (.Assign [tg] e pos) (sAsg te g) := PS.imp (ps_asg he hg hs hw h1) fun Dn σ H q => by
  obtain ⟨F, s, G, DD, A, S, t, l⟩ := q
  refine ⟨F, s, G, _, _, A, S, t, ⟨fun F1 H1 d G1 v st1 A1 r1 q1 => ?_, fun F1 H1 c dx fs s' G' st A' S' => l.ex F1 H1 c dx fs s' G' σ st A' S'⟩⟩
  exact ⟨F1, s, G1, d, _, A1, S.mono st1.le, r1, q1, fun F2 H2 s2 G2 σ2 st2 => l.nx F2 H2 s2 G2 σ2 (st1.trans st2)⟩
theorem ds_set {i : Nat} {x : Str} {e : Expr} {te : TDE} {pos' : Pos} (hN : X.N.Nodup) (hi : X.N[i]? = some x) (hx : Loc X.env.scope x) (he : DE X W e te) (hs : swapsWith e (some (.Name x pos')) pos.line X.env = pure false := by rfl)
    (hf : X.fn x = true ∨ X.env.scope.names.lookup x = some .local := by first | exact .inl rfl | exact .inr rfl | assumption) : DS X W (.Assign [.Name x pos'] e pos) (sAsg te (gNm i)) := PS.imp (ps_set hN hi hx he hs hf) fun Dn σ H q => by
  obtain ⟨F, s, G, DD, A, S, t, l⟩ := q
  refine ⟨F, s, G, _, _, A, S, t, ⟨fun F1 H1 d G1 v st1 A1 r1 q1 => ?_, fun F1 H1 c dx fs s' G' st A' S' => l.ex F1 H1 c dx fs s' G' σ st A' S'⟩⟩
  exact l.nx F1 H1 _ G1 _ st1 A1 ((S.mono st1.le).set r1) q1
/-- a, b = x, y with plain local names -/
def sPar (i j : Nat) (ta : TDA) : TDS := fun D s G => ta s G (fun ds G1 => match ds with
  | [d, d'] => D.nx ((s.set i (some d)).set j (some d')) G1
  | _ => False) D.ex
theorem ds_par {i j : Nat} {x y : Str} {a b : Expr} {ta : TDA} {px py pt : Pos} {kt k2 pt2} (hc : X.calm = true) (hN : X.N.Nodup) (hi : X.N[i]? = some x) (hj : X.N[j]? = some y) (hij : i ≠ j)
    (hx : X.env.scope.names.lookup x = some .local) (hy : X.env.scope.names.lookup y = some .local) (ha : DA X W [a, b] ta)
    (hw : swappedStores [.Tuple [.Name x px, .Name y py] kt pt] (.Tuple [a, b] k2 pt2) X.env = pure (some [x, y]))
    (hs : swapsWithSole [.Tuple [.Name x px, .Name y py] kt pt] (.Tuple [a, b] k2 pt2) pos.line X.env = pure false := by rfl) :
    DS X W (.Assign [.Tuple [.Name x px, .Name y py] kt pt] (.Tuple [a, b] k2 pt2) pos) (sPar i j ta) := PS.imp (ps_par hc hN hi hj hij hx hy ha hw hs) fun Dn σ H q => by
  obtain ⟨F, s, G, DD, A, S, t, l⟩ := q
  refine ⟨F, s, G, _, _, A, S, t, ⟨fun F1 H1 ds G1 vs st1 A1 r1 q1 => ?_, fun F1 H1 c dx fs s' G' st A' S' => l.ex F1 H1 c dx fs s' G' σ st A' S'⟩⟩
  cases r1 with
  | nil => exact q1.elim
  | cons r1 r2 =>
    cases r2 with
    | nil => exact q1.elim
    | cons r2 r3 =>
      cases r3 with
      | nil => exact ⟨_, _, rfl, l.nx F1 H1 _ G1 _ st1 A1 (((S.mono st1.le).set r1).set r2) q1⟩
      | cons _ _ => exact q1.elim
end
end DL
end
section
set_option maxRecDepth 100000
/-! Calls, objects, loops, comprehensions over data. -/
namespace DL
open PySem PySem.Spec PyProof.Rows L2

/-! ### promises -/
abbrev XP := Value → List (Str × D) → GD → Prop
abbrev SpD := List D → GD → KD → XP → Prop
def liftSp (K : PySem.W.Frag) (sp : SpD) : Sp := fun vs H Q E => ∃ F G ds QD ED, AbsH K F H G ∧ Reps K F ds vs ∧ sp ds G QD ED ∧
  (∀ F' H' d G' v, Stp F H G F' H' G' → AbsH K F' H' G' → Rep K F' d v → QD d G' → Q v H') ∧ ∀ F' H' cls dx fs G', Stp F H G F' H' G' → AbsH K F' H' G' → RepX K F' H' dx fs → ED cls fs G' → E cls dx H'
abbrev FnD (P : Program) (w : World) (K : PySem.W.Frag) (mg : Str → Option Value) (base : Heap) (k : Nat) (f : Addr) (fd : FuncData) (ps : List Str) (sp : SpD) : Prop := FnOk P w K mg base (L2.CX P w) k f fd ps (liftSp K sp)
/-- a def's result may be frozen, what it has made besides forgotten -/
def retD (K : PySem.W.Frag) (Q : KD) : KD := fun d G => ∃ d' G', Can K d G d' G' ∧ Q d' G'
def exD (E : XP) : XD := fun cls fs _ G => ∃ G', Less G' G ∧ E cls fs G'
def startD (N : List Str) (ds : List D) : SD := ds.map some ++ List.replicate (N.length - ds.length) none
def endsOf (K : PySem.W.Frag) (Q : KD) (E : XP) : EndsD := { nx := fun _ G => retD K Q .non G, rt := retD K Q, ex := exD E }
theorem slots_start {K : PySem.W.Frag} {F : Hp} {N : List Str} {ds : List D} {vs : List V} (r : Reps K F ds vs) : Slots K F (L2.start N vs) (startD N ds) := by
  have hl := r.length
  refine ⟨by unfold L2.start startD; simp [hl], fun i d e => ?_⟩
  unfold startD at e
  unfold L2.start
  by_cases h : i < ds.length
  · rw [List.getElem?_append_left (by simpa using h), List.getElem?_map] at e
    rw [List.getElem?_append_left (by rw [List.length_map, ← hl]; exact h), List.getElem?_map]
    cases q : ds[i]? with
    | none => rw [q] at e; cases e
    | some d' =>
      rw [q] at e
      cases e
      obtain ⟨v, e1, r1⟩ := r.get q
      exact ⟨v, by rw [e1]; rfl, r1⟩
  · rw [List.getElem?_append_right (by simpa using h), List.getElem?_replicate] at e
    split at e <;> cases e
section
variable {P : Program} {w : World} {K : PySem.W.Frag} {mg : Str → Option Value} {base : Heap}
/-- THE RULE for a def -/
theorem fun_ok {x qual : Str} {params : Arguments} {body : List Stmt} {scope : Scope} {dvs : List V} {kws : List (Str × V)} {f : Addr} {fd : FuncData} {N ps : List Str} {k : Nat} {sp : SpD} {t : TDS} (Fu : FunD K x qual params body scope dvs kws f fd) (S : FnScope N ps scope)
    (len : ∀ ds G Q E, sp ds G Q E → ds.length = ps.length)
    (hb : ∀ (cdv : Value) (A : Around) (outer : List Env) (s : Shared) (H : Hp) (E : XK), Room k (A.deeper (envOfC qual scope s.heap.objs.size f cdv)) →
      DSs (cxOf (L2.CX P w) P w K mg base N qual scope f cdv A outer s H E) (fun cls d _ H' => E cls d H') body t)
    (hp : ∀ ds G Q E, sp ds G Q E → t (endsOf K Q E) (startD N ds) G) : FnD P w K mg base (k + 1) f fd ps sp := by
  refine fun_okV Fu S (fun vs H Q E h => ?_) (fun cdv A outer s H vs Q E hr h => ⟨_, hb cdv A outer s H E hr, ?_⟩)
  · obtain ⟨F, G, ds, QD, ED, _, r, q, _⟩ := h
    rw [← r.length]
    exact len _ _ _ _ q
  · obtain ⟨F, G, ds, QD, ED, A, r, q, l1, l2⟩ := h
    have fin : ∀ F' H' d G' v, Stp F H G F' H' G' → AbsH K F' H' G' → Rep K F' d v → retD K QD d G' → Q v H' := fun F' H' d G' v st A' r' ⟨d2, G2, c, q2⟩ => by
      obtain ⟨F2, st2, A2, r2⟩ := c F' H' v A' r'
      exact l1 F2 H' d2 G2 v (st.trans st2) A2 r2 q2
    refine ⟨F, startD N ds, G, _, A, slots_start r, hp ds G QD ED q, ⟨fun F' H' s' G' σ' st A' S' q' => fin F' H' .non G' .non st A' .non q', fin, fun _ _ _ _ _ _ _ _ q' => q'.elim, fun _ _ _ _ _ _ _ _ q' => q'.elim, ?_⟩⟩
    intro F' H' cls dx fs s' G' σ' st A' S' rx ⟨G2, le, q2⟩
    exact l2 F' H' cls dx fs G2 (st.trans (stp_less le)) (A'.less le) rx q2
end
/-! ### what a caller knows of a def -/
structure Knows (P : Program) (w : World) (K : PySem.W.Frag) (mg : Str → Option Value) (base : Heap) (x : Str) (k : Nat) (dds : List D) (sp : SpD) : Prop where
  ex : ∃ f fd ps ds dvs, mg x = some (.ref f) ∧ PySem.W.keepIn K (.ref f) = true ∧ FnD P w K mg base k f fd ps sp ∧ Binds K fd ps ds ∧ Vals dvs ds ∧ ∀ F, Reps K F dds dvs
/-- a promise at other slots: what is raised goes where the frame wishes -/
theorem sp_lift {K : PySem.W.Frag} {W : WX} {F H : Hp} {G : GD} {σ : L2.St} {s : SD} {ds : List D} {vs : List V} {QD : KD} {ED : XD} {Q : VK} {sp : SpD} (A : AbsH K F H G) (S : Slots K F σ s) (r : Reps K F ds vs)
    (q : sp ds G QD fun cls fs G' => ED cls fs s G') (l : LinkE K F H G σ QD ED Q W) : liftSp K sp vs H Q (WE W σ) :=
  ⟨F, G, ds, QD, _, A, r, q, l.ok, fun F' H' cls dx fs G' st A' rx q' => l.ex F' H' cls dx fs s G' st A' (S.mono st.le) rx q'⟩
def dCall (sp : SpD) (dds : List D) (t : TDA) : TDE := fun s G Q E => t s G (fun ds G1 => sp (ds ++ dds) G1 Q fun cls fs G' => E cls fs s G') E
section
variable {X : Cx} {W : WX} {k : Nat} {x : Str} {p pos : Pos} {e : Expr} {es : List Expr} {t : TDA} {sp : SpD} {dds : List D}
theorem de_call (kn : Knows X.prog X.w X.K X.mg X.base x k dds sp) (hr : Room k X.A) (tk : Takes X W) (ha : DA X W (e :: es) t) (hg : Gl X x := by rfl)
    (hdb : (x == ("__debug__" : Str)) = false := by decide) (he : starEach (e :: es) X.env = (false, eval e X.env) :: starEach es X.env := by rfl) (hpl : (backTo pos (starEach es X.env)).any (·.1) = false := by rfl) :
    DE X W (.Call (.Name x p) (e :: es) [] pos) (dCall sp dds t) := by
  obtain ⟨f, fd, ps, ds, dvs, hm, hk, F, hb, hd, hrep⟩ := kn.ex
  refine PE.imp (pe_callSD F hr hg hm hk hb hd (fun σ => passAt tk σ) ha hdb he hpl) fun σ H Q q => ?_
  obtain ⟨F, s, G, QD, ED, A, S, t, l⟩ := q
  refine ⟨F, s, G, _, ED, A, S, t, ⟨fun F1 H1 d1 G1 x st1 A1 r1 q1 => ?_, l.ex⟩⟩
  exact sp_lift A1 (S.mono st1.le) (r1.append (hrep F1)) q1 (l.mono st1)
/-- a call without arguments -/
theorem de_call0 (kn : Knows X.prog X.w X.K X.mg X.base x k dds sp) (hr : Room k X.A) (tk : Takes X W) (hg : Gl X x := by rfl)
    (hdb : (x == ("__debug__" : Str)) = false := by decide) : DE X W (.Call (.Name x p) [] [] pos) (dCall sp dds dNil) := by
  obtain ⟨f, fd, ps, ds, dvs, hm, hk, F, hb, hd, hrep⟩ := kn.ex
  constructor
  intro pins s σ H Q I h
  obtain ⟨F', s', G, QD, ED, A, S, q, l⟩ := h
  exact wpAny_Call_Name_kw (ld_glob I hg hm (PySem.W.callWith_K0 I.kIn hk (run_fnSD (us := []) (E := WE W) F hr hb hd (passAt tk σ) I .nil (sp_lift A S (hrep F') q l))) hdb)
end
/-! ### objects -/
/-- d is an instance: its class, its attributes -/
def insOf (d : D) (G : GD) : Option (Addr × List (Str × D)) := match d with
  | .ins C fs => some (C, fs)
  | .ref a => (match G a with
    | some (.ins C fs) => some (C, fs)
    | _ => none)
  | _ => none
theorem rep_ins {K : PySem.W.Frag} {F H : Hp} {G : GD} {d : D} {v : V} {C : Addr} {fs : List (Str × D)} (A : AbsH K F H G) (r : Rep K F d v) (h : insOf d G = some (C, fs)) : ∃ a dx fs', v = .ref a ∧ H a = some (.ins C dx fs') ∧ RepS K F fs fs' := by
  cases r with
  | ins h1 rs => cases h; exact ⟨_, _, _, rfl, A.inst h1, rs⟩
  | ref a =>
    have h : (match G a with
      | some (.ins C fs) => some (C, fs)
      | _ => none) = some (C, fs) := h
    cases e : G a with
    | none => rw [e] at h; cases h
    | some o =>
      rw [e] at h
      cases o with
      | ins C' ys =>
        cases h
        obtain ⟨_, dx, vs, e2, rs⟩ := A.obj a _ e
        exact ⟨_, _, _, rfl, e2, rs⟩
      | _ => cases h
  | _ => cases h
/-- o.f of an instance of the class at C -/
def dFld (C : Addr) (f : Str) (t : TDE) : TDE := fun s G Q E => t s G (fun d G1 => ∃ fs v, insOf d G1 = some (C, fs) ∧ fs.lookup f = some v ∧ Q v G1) E
/-- o.f = e -/
def sFldD (C : Addr) (f : Str) (to te : TDE) : TDS := fun D s G => te s G (fun v G1 => to s G1 (fun d G2 => ∃ a fs, d = .ref a ∧ G2 a = some (.ins C fs) ∧ fs.length < 1000 ∧ D.nx s (put G2 a (.ins C (putFD f v fs)))) D.ex) D.ex
/-- a method of an own class: the receiver has no attribute of its name -/
structure KnowsM (P : Program) (w : World) (K : PySem.W.Frag) (mg : Str → Option Value) (base : Heap) (C : Addr) (m : Str) (k : Nat) (dds : List D) (sp : SpD) : Prop where
  ex : ∃ f fd ps ds dvs, Meth K C m f ∧ FnD P w K mg base k f fd ps sp ∧ Binds K fd ps ds ∧ Vals dvs ds ∧ ∀ F, Reps K F dds dvs
def dMeth (C : Addr) (m : Str) (sp : SpD) (dds : List D) (to : TDE) (ta : TDA) : TDE := fun s G Q E => to s G (fun d G1 => ∃ fs, insOf d G1 = some (C, fs) ∧ fs.lookup m = none ∧
  ta s G1 (fun ds G2 => sp (d :: (ds ++ dds)) G2 Q fun cls fs G' => E cls fs s G') E) E
/-- C(..) -/
structure KnowsC (P : Program) (w : World) (K : PySem.W.Frag) (mg : Str → Option Value) (base : Heap) (C : Addr) (k : Nat) (dds : List D) (sp : SpD) : Prop where
  ex : ∃ f fd ps ds dvs, Mk K C f ∧ FnD P w K mg base k f fd ps sp ∧ Binds K fd ps ds ∧ Vals dvs ds ∧ ∀ F, Reps K F dds dvs
def dMake (K : PySem.W.Frag) (C : Addr) (sp : SpD) (dds : List D) (ta : TDA) : TDE := fun s G Q E => ta s G (fun ds G1 => ∀ x, G1 x = none → sp (.ref x :: (ds ++ dds)) (put G1 x (.ins C [])) (fun v G2 => v = .non ∧ retD K Q (.ref x) G2)
  fun cls fs G' => ∃ G'', Less G'' G' ∧ E cls fs s G'') E
/-- o.f, a property -/
structure KnowsP (P : Program) (w : World) (K : PySem.W.Frag) (mg : Str → Option Value) (base : Heap) (C : Addr) (f : Str) (k : Nat) (sp : SpD) : Prop where
  ex : ∃ p g fd ps, PropOf K C f p g ∧ FnD P w K mg base k g fd ps sp ∧ Binds K fd ps []
def dProp (C : Addr) (sp : SpD) (to : TDE) : TDE := fun s G Q E => to s G (fun d G1 => ∃ fs, insOf d G1 = some (C, fs) ∧ sp [d] G1 Q fun _ _ _ => False) E
section
variable {X : Cx} {W : WX} {k : Nat} {x m f : Str} {C : Addr} {p pos pos' apos : Pos} {o e : Expr} {es : List Expr} {to te : TDE} {t : TDA} {sp : SpD} {dds : List D}
theorem de_fld (c : Cls X.K C) (n : NoAttr X.K C f) (he : DE X W o to) (hb : attributeBase o f X.env (eval o X.env) = eval o X.env := by rfl) : DE X W (.Attribute o f pos) (dFld C f to) := PE.imp (pe_fld he hb) fun σ H Q q => by
  obtain ⟨F, s, G, QD, ED, A, S, t, l⟩ := q
  refine ⟨F, s, G, _, ED, A, S, t, ⟨fun F1 H1 d1 G1 x st1 A1 r1 q1 => ?_, l.ex⟩⟩
  obtain ⟨fs, v, hi, hv, q1⟩ := q1
  obtain ⟨a, dx, fs', rfl, ea, rs⟩ := rep_ins A1 r1 hi
  obtain ⟨u, hu, ru⟩ := rs.lookup hv
  exact ⟨a, C, dx, fs', u, rfl, ea, c, n, hu, l.ok F1 H1 v G1 u st1 A1 ru q1⟩
theorem ds_fld (c : Cls X.K C) (n : NoAttr X.K C f) (ho : DE X W o to) (he : DE X W e te) (hs : swapsWith e (some (.Attribute o f pos')) pos.line X.env = pure false := by rfl) : DS X W (.Assign [.Attribute o f pos'] e pos) (sFldD C f to te) :=
  PS.imp (ps_fld ho he hs) fun Dn σ H q => by
    obtain ⟨F, s, G, DD, A, S, t, l⟩ := q
    refine ⟨F, s, G, _, _, A, S, t, ⟨fun F1 H1 d1 G1 x st1 A1 r1 q1 => ?_, fun F1 H1 c dx fs s' G' st A' S' => l.ex F1 H1 c dx fs s' G' σ st A' S'⟩⟩
    refine ⟨F1, s, G1, _, _, A1, S.mono st1.le, q1, ⟨fun F2 H2 d2 G2 y st2 A2 r2 q2 => ?_, fun F2 H2 c dx fs s' G' st A' S' => l.ex F2 H2 c dx fs s' G' σ (st1.trans st) A' S'⟩⟩
    obtain ⟨a, fs, rfl, ea, hl, q2⟩ := q2
    cases r2
    have st := st1.trans st2
    obtain ⟨fa, dx, fs', eh, rs⟩ := A2.obj a _ ea
    have rv := r1.mono st2.le
    refine ⟨a, C, dx, fs', rfl, eh, c, n, by rw [← rs.length]; exact hl, ?_⟩
    exact l.nx _ _ _ _ _ (st.trans (A2.stpW ea)) (A2.write (g' := .ins C (putFD f d1 fs)) ea ⟨dx, _, upd_same, rs.put rv⟩) (S.mono st.le) q2
theorem de_meth {pl : Sem Bool} (c : Cls X.K C) (kn : KnowsM X.prog X.w X.K X.mg X.base C m k dds sp) (hr : Room k X.A) (tk : Takes X W) (ho : DE X W o to) (ha : DA X W (e :: es) t)
    (hst : starEach (e :: es) X.env = (false, eval e X.env) :: starEach es X.env := by rfl) (hpl : (backTo pos (starEach es X.env)).any (·.1) = false := by rfl)
    (ht : eval (.Call (.Attribute o m apos) (e :: es) [] pos) X.env = (do
      let r ← eval o X.env
      standAt apos.atName
      let (g, h) ← holding [r] (getMethod r m pl)
      callWith pos g h (backTo pos (starEach (e :: es) X.env)) (backToKw pos (keywordEach [] X.env))) := by rfl) : DE X W (.Call (.Attribute o m apos) (e :: es) [] pos) (dMeth C m sp dds to t) := by
  obtain ⟨f, fd, ps, ds, dvs, hm, F, hb, hd, hrep⟩ := kn.ex
  constructor
  intro pins s σ H Q I h
  obtain ⟨F0, s0, G, QD, ED, A, S, q, l⟩ := h
  refine PySem.W.methodCall_KW (pl := pl) (thn (ho.run pins s σ H (fun x H1 => ∃ a dx fs', x = .ref a ∧ H1 a = some (.ins C dx fs') ∧ fs'.lookup m = none ∧ liftA X.K W t σ H1 fun vs H2 => liftSp X.K sp (x :: (vs ++ dvs)) H2 Q (WE W σ)) I
    ⟨F0, s0, G, _, ED, A, S, q, ⟨fun F1 H1 d1 G1 x st1 A1 r1 q1 => ?_, l.ex⟩⟩) fun u s1 ⟨x, H1, I1, rx, a, dx, fs', ex, ea, hl, q1⟩ => ?_) ht
  · obtain ⟨fs, hi, hn, q1⟩ := q1
    obtain ⟨a, dx, fs', rfl, ea, rs⟩ := rep_ins A1 r1 hi
    refine ⟨a, dx, fs', rfl, ea, rs.lookup_none hn, F1, s0, G1, _, ED, A1, S.mono st1.le, q1, ⟨fun F2 H2 d2 G2 y st2 A2 r2 q2 => ?_, (l.mono st1).ex⟩⟩
    exact sp_lift A2 (S.mono (st1.trans st2).le) (.cons (r1.mono st2.le) (r2.append (hrep F2))) q2 (l.mono (st1.trans st2))
  · subst ex
    obtain rfl : u = Value.ref a := rx
    refine getmeth_ok I1 ea c hm hl (PySem.W.callWith_K (first := [.ref a]) (h₀ := X.base) I.ok.mod.kin hm.kp (thn (ha.run pos pins s1 σ H1 _ I1 q1) fun us s2 ⟨vs, H2, I2, r, q2⟩ => ⟨I2.kIn, ?_⟩) hst hpl)
    exact run_fnSD (us := .ref a :: us) (vs := .ref a :: vs) (E := WE W) F hr hb hd (passAt tk σ) I2 (.cons rfl r) q2
theorem de_meth0 {pl : Sem Bool} (c : Cls X.K C) (kn : KnowsM X.prog X.w X.K X.mg X.base C m k dds sp) (hr : Room k X.A) (tk : Takes X W) (ho : DE X W o to)
    (ht : eval (.Call (.Attribute o m apos) [] [] pos) X.env = (do
      let r ← eval o X.env
      standAt apos.atName
      let (g, h) ← holding [r] (getMethod r m pl)
      callWith pos g h (backTo pos (starEach [] X.env)) (backToKw pos (keywordEach [] X.env))) := by rfl) : DE X W (.Call (.Attribute o m apos) [] [] pos) (dMeth C m sp dds to dNil) := by
  obtain ⟨f, fd, ps, ds, dvs, hm, F, hb, hd, hrep⟩ := kn.ex
  constructor
  intro pins s σ H Q I h
  obtain ⟨F0, s0, G, QD, ED, A, S, q, l⟩ := h
  refine PySem.W.methodCall_KW (pl := pl) (thn (ho.run pins s σ H (fun x H1 => ∃ a dx fs', x = .ref a ∧ H1 a = some (.ins C dx fs') ∧ fs'.lookup m = none ∧ liftSp X.K sp (x :: dvs) H1 Q (WE W σ)) I
    ⟨F0, s0, G, _, ED, A, S, q, ⟨fun F1 H1 d1 G1 x st1 A1 r1 q1 => ?_, l.ex⟩⟩) fun u s1 ⟨x, H1, I1, rx, a, dx, fs', ex, ea, hl, q1⟩ => ?_) ht
  · obtain ⟨fs, hi, hn, q1⟩ := q1
    obtain ⟨a, dx, fs', rfl, ea, rs⟩ := rep_ins A1 r1 hi
    exact ⟨a, dx, fs', rfl, ea, rs.lookup_none hn, sp_lift A1 (S.mono st1.le) (.cons r1 (hrep F1)) q1 (l.mono st1)⟩
  · subst ex
    obtain rfl : u = Value.ref a := rx
    exact getmeth_ok I1 ea c hm hl (PySem.W.callWith_K0 (first := [.ref a]) I1.kIn hm.kp (run_fnSD (us := [.ref a]) (vs := [.ref a]) (E := WE W) F hr hb hd (passAt tk σ) I1 (.cons rfl .nil) q1))
/-- a new instance is laid: its dict, itself -/
theorem made_abs {K : PySem.W.Frag} {F H : Hp} {G : GD} {a dx : Addr} (A : AbsH K F H G) (ha : H a = none) (hd : H dx = none) (hne : dx ≠ a) :
    AbsH K F (upd (upd H dx (.own a)) a (.ins C dx [])) (put G a (.ins C [])) ∧ Stp F H G F (upd (upd H dx (.own a)) a (.ins C dx [])) (put G a (.ins C [])) := by
  have h1 := A.beside (o := .own a) hd
  have h2 : upd H dx (.own a) a = none := by rw [upd_ne (Ne.symm hne)]; exact ha
  exact ⟨h1.laidG h2 ⟨dx, [], upd_same, .nil⟩, (stp_beside hd).trans (stp_new h2)⟩
theorem de_make {K : PySem.W.Frag} (kn : KnowsC X.prog X.w X.K X.mg X.base C k dds sp) (hm : X.mg x = some (.ref C)) (hr : Room (k + 1) X.A) (tk : Takes X W) (ha : DA X W (e :: es) t) (hg : Gl X x := by rfl)
    (hdb : (x == ("__debug__" : Str)) = false := by decide) (he : starEach (e :: es) X.env = (false, eval e X.env) :: starEach es X.env := by rfl) (hpl : (backTo pos (starEach es X.env)).any (·.1) = false := by rfl) (hK : X.K = K := by rfl) :
    DE X W (.Call (.Name x p) (e :: es) [] pos) (dMake K C sp dds t) := by
  subst hK
  obtain ⟨f, fd, ps, ds, dvs, M, F, hb, hd, hrep⟩ := kn.ex
  constructor
  intro pins s σ H Q I h
  obtain ⟨F0, s0, G, QD, ED, A, S, q, l⟩ := h
  refine wpAny_Call_Name_kw (ld_glob I hg hm (PySem.W.callWith_K (h₀ := X.base) I.ok.mod.kin M.kp (thn (ha.run pos pins s σ H (fun vs H1 => ∀ z dx, H1 z = none → H1 dx = none → dx ≠ z →
    liftSp X.K sp (.ref z :: (vs ++ dvs)) (upd (upd H1 dx (.own z)) z (.ins C dx [])) (fun v H2 => v = .non ∧ Q (.ref z) H2) (WE W σ)) I ⟨F0, s0, G, _, ED, A, S, q, ⟨fun F1 H1 d1 G1 x st1 A1 r1 q1 => ?_, l.ex⟩⟩) fun us s1 ⟨vs, H1, I1, r, q⟩ => ⟨I1.kIn, ?_⟩) he hpl) hdb)
  · intro z dx hz hdx hne
    obtain ⟨A2, st2⟩ := made_abs (C := C) A1 hz hdx hne
    have st := st1.trans st2
    refine ⟨F1, _, .ref z :: (d1 ++ dds), _, _, A2, .cons (.ref z) (r1.append (hrep F1)), q1 z (A1.gnone hz), fun F' H' d G' v st' A' r' ⟨ed, d2, G2, c, q2⟩ => ?_, fun F' H' cls dx fs G' st' A' rx ⟨G2, le, q2⟩ => ?_⟩
    · subst ed
      cases r'
      refine ⟨rfl, ?_⟩
      obtain ⟨F3, st3, A3, r3⟩ := c F' H' (.ref z) A' (.ref z)
      exact l.ok F3 H' d2 G2 _ ((st.trans st').trans st3) A3 r3 q2
    · have st4 := (st.trans st').trans (stp_less le)
      exact l.ex F' H' cls dx fs s0 G2 st4 (A'.less le) (S.mono st4.le) rx q2
  · have hq := q (s1.heap.objs.size + 1) s1.heap.objs.size (I1.hok.fresh (Nat.le_succ _)) (I1.hok.fresh (Nat.le_refl _)) (Nat.ne_of_lt (Nat.lt_succ_self _))
    have I2 := Inv.made (C := C) I1
    have r2 : Vals (V.ref (s1.heap.objs.size + 1) :: (vs ++ dvs)) (Value.ref (s1.heap.objs.size + 1) :: (us ++ ds)) := .cons rfl (r.append hd)
    have hl : (Value.ref (s1.heap.objs.size + 1) :: us ++ ds).length = ps.length := by
      have e := r2.length
      rw [F.len _ _ _ _ hq] at e
      exact e.symm
    refine wpAny_call (make_map (f := f) I1.kIn M.makes M.init (beq_iff_eq.mp M.fn) (codeAny_mono (F.run _ X.stack _ _ ⟨Value.ref (s1.heap.objs.size + 1) :: us, []⟩ (Value.ref (s1.heap.objs.size + 1) :: (us ++ ds)) _ _ (WE W σ) (hr.make C us [])
      (I2.env0.make C us []) (hb _ (Value.ref (s1.heap.objs.size + 1) :: us) I2.kIn hl) r2 hq) fun r s' hq' => ?_))
    rcases r with er | fl
    · exact passAt tk σ pins _ _ er s' I2 hq'
    · rcases fl with _ | _ | _ | u
      · exact False.elim hq'
      · exact False.elim hq'
      · exact False.elim hq'
      · obtain ⟨v, H', I3, rv, ev, q3⟩ := I2.after hq'
        subst ev
        exact ⟨rv, ⟨V.ref (s1.heap.objs.size + 1), H', I3, rfl, q3⟩⟩
theorem passL_nox : Passes (L2.CX X.prog X.w) X.nox E0 := fun _ _ _ _ _ _ _ h => by
  obtain ⟨_, _, _, _, _, _, _, _, _, _, _, _, z⟩ := h
  exact z.elim
theorem de_prop (c : Cls X.K C) (kn : KnowsP X.prog X.w X.K X.mg X.base C f k sp) (hr : Room (k + 1) X.A) (ho : DE X W o to) (hab : attributeBase o f X.env (eval o X.env) = eval o X.env := by rfl) : DE X W (.Attribute o f pos) (dProp C sp to) := by
  obtain ⟨pp, g, fd, ps, hp, F, hb⟩ := kn.ex
  refine PE.imp (pe_prop (E := E0) ho c hp F hr hb .nil passL_nox hab) fun σ H Q q => ?_
  obtain ⟨F0, s, G, QD, ED, A, S, t, l⟩ := q
  refine ⟨F0, s, G, _, ED, A, S, t, ⟨fun F1 H1 d1 G1 x st1 A1 r1 q1 => ?_, l.ex⟩⟩
  obtain ⟨fs, hi, q1⟩ := q1
  obtain ⟨a, dx, fs', rfl, ea, rs⟩ := rep_ins A1 r1 hi
  exact ⟨a, dx, fs', rfl, ea, F1, G1, [d1], QD, _, A1, .cons r1 .nil, q1, (l.mono st1).ok, fun _ _ _ _ _ _ _ _ _ z => z⟩
end

/-! ### loops -/
/-- what a for or a comprehension walks: the items, at every turn -/
structure WalkD (K : PySem.W.Frag) (F1 H1 : Hp) (G1 : GD) (J : It) (ds : List D) : Prop where
  go : ∀ i d F H G, ds[i]? = some d → Stp F1 H1 G1 F H G → AbsH K F H G → J.go i H ∧ ∀ x H', J.yld i H x H' → ∃ F', Stp F H G F' H' G ∧ AbsH K F' H' G ∧ Rep K F' d x
  stop : ∀ F H G, Stp F1 H1 G1 F H G → AbsH K F H G → J.stop ds.length H
abbrev TDI := SD → GD → (List D → GD → Prop) → XD → Prop
structure LinkI (K : PySem.W.Frag) (F H : Hp) (G : GD) (σ : L2.St) (QD : List D → GD → Prop) (ED : XD) (R : It → Hp → Prop) (W : WX) : Prop where
  ok : ∀ F' H' ds G' J, Stp F H G F' H' G' → AbsH K F' H' G' → WalkD K F' H' G' J ds → QD ds G' → R J H'
  ex : ∀ F' H' cls dx fs s' G', Stp F H G F' H' G' → AbsH K F' H' G' → Slots K F' σ s' → RepX K F' H' dx fs → ED cls fs s' G' → W cls dx σ H'
def liftI (K : PySem.W.Frag) (W : WX) (t : TDI) : TI := fun σ H R => ∃ F s G QD ED, AbsH K F H G ∧ Slots K F σ s ∧ t s G QD ED ∧ LinkI K F H G σ QD ED R W
def DI (X : Cx) (W : WX) (tg iter : Expr) (t : TDI) : Prop := PI X tg iter (liftI X.K W t)
theorem PI.imp {X : Cx} {tg e : Expr} {t t' : TI} (h : PI X tg e t) (i : ∀ σ H Q, t' σ H Q → t σ H Q) : PI X tg e t' := ⟨fun pins s σ H Q I q => h.run pins s σ H Q I (i σ H Q q)⟩
/-- a for: turn by turn -/
def loopD (g : TDG) (tb : TDS) : List D → EndsD → SD → GD → Prop
  | [], D, s, G => D.nx s G
  | d :: ds, D, s, G => g d s G fun s1 G1 => tb { D with nx := fun s' G' => loopD g tb ds D s' G', ct := fun s' G' => loopD g tb ds D s' G', bk := D.nx } s1 G1
def sFor (t : TDI) (g : TDG) (tb : TDS) : TDS := fun D s G => t s G (fun ds G1 => loopD g tb ds D s G1) D.ex
/-- a while: an invariant with a measure -/
def sWhile (c : TDT) (tb : TDS) : TDS := fun D s G => ∃ I : Nat → SD → GD → Prop, (∃ m, I m s G) ∧ ∀ m s G, I m s G →
  c s G (fun b G1 => if b = true then tb { D with nx := fun s' G' => ∃ m', m' < m ∧ I m' s' G', ct := fun s' G' => ∃ m', m' < m ∧ I m' s' G', bk := D.nx } s G1 else D.nx s G1) D.ex
section
variable {X : Cx} {W : WX} {pos : Pos}
theorem ds_for {tg iter : Expr} {body : List Stmt} {t : TDI} {g : TDG} {tb : TDS} (hp : PassesOwn (model X.prog X.w) X.A X.env X.xe) (hc : X.calm = true) (hi : DI X W tg iter t) (hg : DG X tg g) (hb : DSs X W body tb)
    (hs : ∀ x, foldedSetIterable iter X.env x = pure x := by intro _; rfl) : DS X W (.For tg iter body [] pos) (sFor t g tb) := PS.imp (ps_for hp hc hi hg hb hs) fun Dn σ H q => by
  obtain ⟨F, s, G, DD, A, S, t, l⟩ := q
  refine ⟨F, s, G, _, _, A, S, t, ⟨fun F1 H1 ds G1 J st1 A1 wk q1 => ?_, fun F1 H1 c dx fs s' G' st A' S' => l.ex F1 H1 c dx fs s' G' σ st A' S'⟩⟩
  refine ⟨fun i m σ H => m = ds.length - i ∧ i ≤ ds.length ∧ ∃ F2 s2 G2, Stp F1 H1 G1 F2 H G2 ∧ AbsH X.K F2 H G2 ∧ Slots X.K F2 σ s2 ∧ loopD g tb (ds.drop i) DD s2 G2, ⟨ds.length, by simp, Nat.zero_le _, F1, s, G1, .refl _ _ _, A1, S.mono st1.le, q1⟩, ?_⟩
  rintro i m σ2 H2 ⟨rfl, hi, F2, s2, G2, st2, A2, S2, q2⟩
  by_cases hlt : i < ds.length
  · have e : ds[i]? = some ds[i] := List.getElem?_eq_getElem hlt
    obtain ⟨hgo, hy⟩ := wk.go i _ F2 H2 G2 e st2 A2
    rw [List.drop_eq_getElem_cons hlt] at q2
    refine .inr ⟨hgo, fun σ' H' => ∃ F3 s3 G3, Stp F1 H1 G1 F3 H' G3 ∧ AbsH X.K F3 H' G3 ∧ Slots X.K F3 σ' s3 ∧ loopD g tb (ds.drop (i + 1)) DD s3 G3, fun σ' H' h => ⟨ds.length - (i + 1), by omega, rfl, hlt, h⟩, fun x H' y => ?_⟩
    obtain ⟨F3, st3, A3, r3⟩ := hy x H' y
    have st23 := st2.trans st3
    refine ⟨F3, s2, G2, _, _, A3, S2.mono st3.le, r3, q2, fun F4 H4 s4 G4 σ4 st4 A4 S4 q4 => ?_⟩
    have st := st23.trans st4
    have sl := st1.trans st
    refine ⟨F4, s4, G4, _, A4, S4, q4, ⟨fun F5 H5 s5 G5 σ5 st5 A5 S5 q5 => ⟨F5, s5, G5, st.trans st5, A5, S5, q5⟩, fun F5 H5 d G5 v st5 => l.rt F5 H5 d G5 v (sl.trans st5), fun F5 H5 s5 G5 σ5 st5 => l.nx F5 H5 s5 G5 σ5 (sl.trans st5),
      fun F5 H5 s5 G5 σ5 st5 A5 S5 q5 => ⟨F5, s5, G5, st.trans st5, A5, S5, q5⟩, fun F5 H5 c dx fs s5 G5 σ5 st5 => l.ex F5 H5 c dx fs s5 G5 σ5 (sl.trans st5)⟩⟩
  · have e : i = ds.length := by omega
    subst e
    rw [List.drop_length] at q2
    exact .inl ⟨wk.stop F2 H2 G2 st2 A2, l.nx F2 H2 s2 G2 σ2 (st1.trans st2) A2 S2 q2⟩
theorem ds_while {c : Expr} {body : List Stmt} {tc : TDT} {tb : TDS} (hp : PassesOwn (model X.prog X.w) X.A X.env X.xe) (hc : DT X W c tc) (hb : DSs X W body tb) : DS X W (.While c body [] pos) (sWhile tc tb) := PS.imp (ps_while hp hc hb) fun Dn σ H q => by
  obtain ⟨F, s, G, DD, A, S, ⟨I, ⟨m0, i0⟩, turn⟩, l⟩ := q
  refine ⟨fun m σ' H' => ∃ F1 s1 G1, Stp F H G F1 H' G1 ∧ AbsH X.K F1 H' G1 ∧ Slots X.K F1 σ' s1 ∧ I m s1 G1, ⟨m0, F, s, G, .refl _ _ _, A, S, i0⟩, ?_⟩
  rintro m σ1 H1 ⟨F1, s1, G1, st1, A1, S1, i1⟩
  refine ⟨F1, s1, G1, _, _, A1, S1, turn m s1 G1 i1, ⟨fun F2 H2 b G2 st2 A2 q2 => ?_, fun F2 H2 c dx fs s' G' st A' S' => l.ex F2 H2 c dx fs s' G' σ1 (st1.trans st) A' S'⟩⟩
  have st := st1.trans st2
  cases b with
  | true =>
    refine iteT ⟨fun σ' H' => ∃ m', m' < m ∧ ∃ F3 s3 G3, Stp F H G F3 H' G3 ∧ AbsH X.K F3 H' G3 ∧ Slots X.K F3 σ' s3 ∧ I m' s3 G3, fun σ' H' ⟨m', hm, h⟩ => ⟨m', hm, h⟩, ?_⟩
    refine ⟨F2, s1, G2, _, A2, S1.mono st2.le, untT q2, ⟨fun F5 H5 s5 G5 σ5 st5 A5 S5 ⟨m', hm, q5⟩ => ⟨m', hm, F5, s5, G5, st.trans st5, A5, S5, q5⟩, fun F5 H5 d G5 v st5 => l.rt F5 H5 d G5 v (st.trans st5), fun F5 H5 s5 G5 σ5 st5 => l.nx F5 H5 s5 G5 σ5 (st.trans st5),
      fun F5 H5 s5 G5 σ5 st5 A5 S5 ⟨m', hm, q5⟩ => ⟨m', hm, F5, s5, G5, st.trans st5, A5, S5, q5⟩, fun F5 H5 c dx fs s5 G5 σ5 st5 => l.ex F5 H5 c dx fs s5 G5 σ5 (st.trans st5)⟩⟩
  | false => exact iteF (l.nx F2 H2 s1 G2 σ1 st A2 (S1.mono st2.le) (untF q2))
end
/-- a walk over a thing that stands still -/
theorem walk_seqL {K : PySem.W.Frag} {F1 H1 : Hp} {G1 : GD} {a : Addr} {xs : List V} {ds : List D} (r : Reps K F1 ds xs) (h : ∀ F H G, Stp F1 H1 G1 F H G → AbsH K F H G → SqL K H a xs) : WalkD K F1 H1 G1 (Itl K a) ds := by
  refine ⟨fun i d F H G e st A => ?_, fun F H G st A => ⟨xs, h F H G st A, by rw [r.length]; exact Nat.le_refl _⟩⟩
  obtain ⟨v, ev, rv⟩ := r.get e
  refine ⟨⟨xs, v, h F H G st A, ev⟩, fun x H' y => ?_⟩
  obtain ⟨eh, y⟩ := y
  subst eh
  have e2 := y xs (h F H' G st A)
  rw [ev] at e2
  cases e2
  exact ⟨F, .refl _ _ _, A, rv.mono st.le⟩
theorem walk_seqT {K : PySem.W.Frag} {F1 H1 : Hp} {G1 : GD} {a : Addr} {xs : List V} {ds : List D} (r : Reps K F1 ds xs) (h : ∀ F H G, Stp F1 H1 G1 F H G → AbsH K F H G → SqT K H a xs) : WalkD K F1 H1 G1 (Itt K a) ds := by
  refine ⟨fun i d F H G e st A => ?_, fun F H G st A => ⟨xs, h F H G st A, by rw [r.length]; exact Nat.le_refl _⟩⟩
  obtain ⟨v, ev, rv⟩ := r.get e
  refine ⟨⟨xs, v, h F H G st A, ev⟩, fun x H' y => ?_⟩
  obtain ⟨eh, y⟩ := y
  subst eh
  have e2 := y xs (h F H' G st A)
  rw [ev] at e2
  cases e2
  exact ⟨F, .refl _ _ _, A, rv.mono st.le⟩
theorem PI.or {X : Cx} {tg e : Expr} {t t' : TI} (h : PI X tg e t) (h' : PI X tg e t') : PI X tg e (fun σ H R => t σ H R ∨ t' σ H R) := ⟨fun pins s σ H R I q => q.elim (h.run pins s σ H R I) (h'.run pins s σ H R I)⟩
/-- for x in a list that is frozen; in a tuple -/
def iSeqL (t : TDE) : TDI := fun s G Q E => t s G (fun d G1 => match d with
  | .lst xs => Q xs G1
  | _ => False) E
def iSeqT (t : TDE) : TDI := fun s G Q E => t s G (fun d G1 => match d with
  | .tup xs => Q xs G1
  | _ => False) E
section
variable {X : Cx} {W : WX} {tg e : Expr} {t : TDE} {pos p : Pos}
theorem di_lst (h : DE X W e t) : DI X W tg e (iSeqL t) := PI.imp (pi_list h) fun σ H R q => by
  obtain ⟨F, s, G, QD, ED, A, S, t, l⟩ := q
  refine ⟨F, s, G, _, ED, A, S, t, ⟨fun F1 H1 d1 G1 x st1 A1 r1 q1 => ?_, l.ex⟩⟩
  cases r1 with
  | lst h1 rs => exact ⟨_, rfl, ⟨_, A1.sqL h1⟩, l.ok F1 H1 _ G1 _ st1 A1 (walk_seqL rs fun F2 H2 G2 st2 A2 => A2.sqL (st2.le.sqL h1)) q1⟩
  | _ => exact q1.elim
theorem di_tup (h : DE X W e t) : DI X W tg e (iSeqT t) := PI.imp (pi_tup h) fun σ H R q => by
  obtain ⟨F, s, G, QD, ED, A, S, t, l⟩ := q
  refine ⟨F, s, G, _, ED, A, S, t, ⟨fun F1 H1 d1 G1 x st1 A1 r1 q1 => ?_, l.ex⟩⟩
  cases r1 with
  | tup h1 rs => exact ⟨_, rfl, ⟨_, A1.sqT h1⟩, l.ok F1 H1 _ G1 _ st1 A1 (walk_seqT rs fun F2 H2 G2 st2 A2 => A2.sqT (st2.le.sqT h1)) q1⟩
  | _ => exact q1.elim
/-- for c in a text -/
def iStrD (t : TDE) : TDI := fun s G Q E => t s G (fun d G1 => match d with
  | .str z => Q (z.cps.toList.map fun c => .str ⟨#[c]⟩) G1
  | _ => False) E
theorem walk_str {K : PySem.W.Frag} {F1 H1 : Hp} {G1 : GD} {z : Str} : WalkD K F1 H1 G1 (Its z) (z.cps.toList.map fun c => .str ⟨#[c]⟩) := by
  refine ⟨fun i d F2 H2 G2 e st2 A2 => ?_, fun F2 H2 G2 st2 A2 => by show z.cps.size ≤ _; simp⟩
  rw [List.getElem?_map] at e
  cases e3 : z.cps.toList[i]? with
  | none => rw [e3] at e; cases e
  | some c =>
    rw [e3] at e
    cases e
    have e4 : z.cps[i]? = some c := by simpa using e3
    refine ⟨(Array.getElem?_eq_some_iff.mp e4).1, fun x H' y => ?_⟩
    obtain ⟨eh, c', ec, ex⟩ := y
    subst eh ex
    rw [e4] at ec
    cases ec
    exact ⟨F2, .refl _ _ _, A2, .str _⟩
theorem di_str (h : DE X W e t) : DI X W tg e (iStrD t) := PI.imp (pi_str h) fun σ H R q => by
  obtain ⟨F, s, G, QD, ED, A, S, t, l⟩ := q
  refine ⟨F, s, G, _, ED, A, S, t, ⟨fun F1 H1 d1 G1 x st1 A1 r1 q1 => ?_, l.ex⟩⟩
  cases r1 with
  | str z =>
    exact ⟨z, rfl, l.ok F1 H1 _ G1 _ st1 A1 walk_str q1⟩
  | _ => exact q1.elim
/-- for k in range(n), range(a, b) -/
def intsFrom (lo : Int) : Nat → List D
  | 0 => []
  | n + 1 => .int lo :: intsFrom (lo + 1) n
theorem intsFrom_at : ∀ {n : Nat} {lo : Int} {i : Nat}, i < n → (intsFrom lo n)[i]? = some (.int (lo + i))
  | 0, _, _, h => by omega
  | n + 1, lo, 0, _ => by show some (D.int lo) = _; simp
  | n + 1, lo, i + 1, h => by
    show (intsFrom (lo + 1) n)[i]? = _
    rw [intsFrom_at (by omega)]
    congr 2
    omega
theorem intsFrom_len : ∀ {n : Nat} {lo : Int}, (intsFrom lo n).length = n
  | 0, _ => rfl
  | n + 1, lo => congrArg Nat.succ intsFrom_len
theorem walk_range {K : PySem.W.Frag} {F1 H1 : Hp} {G1 : GD} {lo : Int} {n : Nat} : WalkD K F1 H1 G1 (Itr lo n) (intsFrom lo n) := by
  refine ⟨fun i d F H G e st A => ?_, fun F H G st A => by show n ≤ _; rw [intsFrom_len]; exact Nat.le_refl _⟩
  have hi : i < n := by
    have := (List.getElem?_eq_some_iff.mp e).1
    rw [intsFrom_len] at this
    exact this
  rw [intsFrom_at hi] at e
  cases e
  refine ⟨hi, fun x H' y => ?_⟩
  obtain ⟨eh, ex⟩ := y
  subst eh ex
  exact ⟨F, .refl _ _ _, A, .int _⟩
def iRange1 (t : TDA) : TDI := fun s G Q E => t s G (fun ds G1 => match ds with
  | [.int j] => (-(2 ^ 62) ≤ j ∧ j < 2 ^ 62) ∧ Q (intsFrom 0 j.toNat) G1
  | _ => False) E
def iRange2 (t : TDA) : TDI := fun s G Q E => t s G (fun ds G1 => match ds with
  | [.int i, .int j] => (-(2 ^ 62) ≤ i ∧ i < 2 ^ 62 ∧ -(2 ^ 62) ≤ j ∧ j < 2 ^ 62) ∧ Q (intsFrom i (j - i).toNat) G1
  | _ => False) E
theorem di_range1 {a : Expr} {ta : TDA} (hm : X.mg "range" = none) (ha : DA X W [a] ta) (hg : Gl X "range" := by rfl) (hs : starEach [a] X.env = [(false, eval a X.env)] := by rfl) : DI X W tg (.Call (.Name "range" p) [a] [] pos) (iRange1 ta) :=
  PI.imp (pi_range1 hg hm ha hs) fun σ H R q => by
    obtain ⟨F, s, G, QD, ED, A, S, t, l⟩ := q
    refine ⟨F, s, G, _, ED, A, S, t, ⟨fun F1 H1 d1 G1 x st1 A1 r1 q1 => ?_, l.ex⟩⟩
    split at q1
    · cases r1 with
      | cons r1 r2 =>
        cases r1; cases r2
        exact ⟨_, rfl, q1.1.1, q1.1.2, l.ok F1 H1 _ G1 _ st1 A1 walk_range q1.2⟩
    · exact q1.elim
theorem di_range2 {a b : Expr} {ta : TDA} (hm : X.mg "range" = none) (ha : DA X W [a, b] ta) (hg : Gl X "range" := by rfl) (hs : starEach [a, b] X.env = [(false, eval a X.env), (false, eval b X.env)] := by rfl) (hs2 : starEach [b] X.env = [(false, eval b X.env)] := by rfl) :
    DI X W tg (.Call (.Name "range" p) [a, b] [] pos) (iRange2 ta) :=
  PI.imp (pi_range2 hg hm ha hs hs2) fun σ H R q => by
    obtain ⟨F, s, G, QD, ED, A, S, t, l⟩ := q
    refine ⟨F, s, G, _, ED, A, S, t, ⟨fun F1 H1 d1 G1 x st1 A1 r1 q1 => ?_, l.ex⟩⟩
    split at q1
    · cases r1 with
      | cons r1 r2 =>
        cases r2 with
        | cons r2 r3 =>
          cases r1; cases r2; cases r3
          exact ⟨_, _, rfl, q1.1, l.ok F1 H1 _ G1 _ st1 A1 walk_range q1.2⟩
    · exact q1.elim
end

/-! ### comprehensions -/
def wipeD (s : SD) : List Nat → SD
  | [] => s
  | v :: vs => (wipeD s vs).set v none
def noX : XD := fun _ _ _ _ => False
/-- turn by turn: the items so far -/
def compD (g : TDG) (tt : TDT) (te : TDE) (vs : List Nat) (s : SD) : List D → List D → GD → (List D → GD → Prop) → Prop
  | [], acc, G, Q => Q acc G
  | d :: ds, acc, G, Q => g d (wipeD s vs) G fun s2 G2 => tt s2 G2 (fun b G3 => if b = true then te s2 G3 (fun y G4 => acc.length < sizeLine ∧ compD g tt te vs s ds (acc ++ [y]) G4 Q) noX else compD g tt te vs s ds acc G3 Q) noX
def dLc (t : TDI) (g : TDG) (tt : TDT) (te : TDE) (vs : List Nat) : TDE := fun s G Q E => t s G (fun ds G1 => compD g tt te vs s ds [] G1 fun ys G2 => Q (.lst ys) G2) E
/-- the list may be changed behind -/
def dLcM (t : TDI) (g : TDG) (tt : TDT) (te : TDE) (vs : List Nat) : TDE := fun s G Q E => t s G (fun ds G1 => compD g tt te vs s ds [] G1 fun ys G2 => ∀ p, G2 p = none → Q (.ref p) (put G2 p (.lst ys))) E
abbrev W0 : WX := fun _ _ _ _ => False
def DTs (X : Cx) (W : WX) (ifs : List Expr) (t : TDT) : Prop := PTs X ifs (liftT X.K W t)
theorem PTs.imp {X : Cx} {e : List Expr} {t t' : TT} (h : PTs X e t) (i : ∀ σ H Q, t' σ H Q → t σ H Q) : PTs X e t' := ⟨fun pins s σ H Q I q => h.run pins s σ H Q I (i σ H Q q)⟩
def dYes : TDT := fun _ G Q _ => Q true G
theorem Slots.wipe {K : PySem.W.Frag} {F : Hp} {σ : L2.St} {s : SD} (h : Slots K F σ s) : ∀ vs : List Nat, Slots K F (L2.wipe σ vs) (wipeD s vs)
  | [] => h
  | v :: vs => (Slots.wipe h vs).unset
theorem wipe_at (σ : L2.St) (j : Nat) : ∀ vs : List Nat, (L2.wipe σ vs)[j]? = if j ∈ vs ∧ j < σ.length then some none else σ[j]?
  | [] => by simp [L2.wipe]
  | v :: vs => by
    have ih := wipe_at σ j vs
    have hl := L2.wipe_length σ vs
    show ((L2.wipe σ vs).set v none)[j]? = _
    by_cases e : v = j
    · subst e
      by_cases h : v < σ.length
      · rw [List.getElem?_set_self (by rw [hl]; exact h)]
        simp [h]
      · rw [List.getElem?_eq_none (by simpa [hl] using h), if_neg (fun z => h z.2), List.getElem?_eq_none (by simpa using h)]
    · rw [List.getElem?_set_ne e, ih]
      simp [Ne.symm e]
theorem wipe_set {σ : L2.St} {i : Nat} {x : Option V} {vs : List Nat} (h : i ∈ vs) : L2.wipe (σ.set i x) vs = L2.wipe σ vs := by
  apply List.ext_getElem?
  intro j
  rw [wipe_at, wipe_at, List.length_set]
  by_cases c : j ∈ vs ∧ j < σ.length
  · rw [if_pos c, if_pos c]
  · rw [if_neg c, if_neg c]
    by_cases e : i = j
    · subst e
      have hl : σ.length ≤ i := Nat.le_of_not_lt fun z => c ⟨h, z⟩
      rw [List.getElem?_eq_none (by simpa using hl), List.getElem?_eq_none hl]
    · rw [List.getElem?_set_ne e]
theorem wipe_wipe {σ : L2.St} {vs : List Nat} : L2.wipe (L2.wipe σ vs) vs = L2.wipe σ vs := by
  apply List.ext_getElem?
  intro j
  rw [wipe_at, wipe_at, L2.wipe_length]
  by_cases c : j ∈ vs ∧ j < σ.length
  · rw [if_pos c, if_pos c]
  · rw [if_neg c, if_neg c]
/-- targets that store in the slots vs alone -/
def liftGw (K : PySem.W.Frag) (vs : List Nat) (t : TDG) : TG := fun v σ H Q => ∃ F s G d QD, AbsH K F H G ∧ Slots K F σ s ∧ Rep K F d v ∧ t d s G QD ∧
  ∀ F' H' s' G' σ', Stp F H G F' H' G' → AbsH K F' H' G' → Slots K F' σ' s' → L2.wipe σ' vs = L2.wipe σ vs → QD s' G' → Q σ' H'
def liftGsw (K : PySem.W.Frag) (vs : List Nat) (t : TDGs) : TGs := fun v σ H Q => ∃ F s G ds QD, AbsH K F H G ∧ Slots K F σ s ∧ Reps K F ds v ∧ t ds s G QD ∧
  ∀ F' H' s' G' σ', Stp F H G F' H' G' → AbsH K F' H' G' → Slots K F' σ' s' → L2.wipe σ' vs = L2.wipe σ vs → QD s' G' → Q σ' H'
def DGw (X : Cx) (vs : List Nat) (e : Expr) (t : TDG) : Prop := PG X e (liftGw X.K vs t)
def DGsw (X : Cx) (vs : List Nat) (es : List Expr) (t : TDGs) : Prop := PGs X es (liftGsw X.K vs t)
theorem AbsH.hidW {K : PySem.W.Frag} {F H : Hp} {G : GD} {p : Addr} {o : HO} (A : AbsH K F H G) (hf : F p = none) (hg : G p = none) {u0 : HO} (hu : H p = some u0) (ou : Ord u0) : AbsH K F (upd H p o) G := by
  refine ⟨fun a u e => ?_, fun a u e => ?_⟩
  · have q : a ≠ p := fun z => by rw [z, hf] at e; cases e
    rw [upd_ne q]; exact A.sub a u e
  · have q : a ≠ p := fun z => by rw [z, hg] at e; cases e
    obtain ⟨n, r⟩ := A.obj a u e
    exact ⟨n, r.at (.inr ⟨u0, hu, ou⟩) q⟩
theorem Stp.hidW {F H F' H' : Hp} {G G' : GD} {p : Addr} {o : HO} (st : Stp F H G F' H' G') (hp : H p = none) : Stp F H G F' (upd H' p o) G' :=
  ⟨st.le, fun a ob u e => by rw [upd_ne (ne_of_none e hp)]; exact st.fz a ob u e, fun b u e n f g => by
    rw [upd_ne (ne_of_none e hp)]; exact st.hid b u e n f g⟩
section
variable {X : Cx} {W : WX} {pos : Pos} {vs : List Nat}
theorem dgw_name {i : Nat} {x : Str} (hN : X.N.Nodup) (hi : X.N[i]? = some x) (hx : Loc X.env.scope x) (hv : i ∈ vs) (hf : X.fn x = true ∨ X.env.scope.names.lookup x = some .local := by first | exact .inl rfl | exact .inr rfl | assumption) : DGw X vs (.Name x pos) (gNm i) :=
  PG.imp (pg_name hN hi hx hf) fun v σ H Q q => by
    obtain ⟨F, s, G, d, QD, A, S, r, t, l⟩ := q
    exact l F H _ G _ (.refl F H G) A (S.set r) (wipe_set hv) t
theorem dgsw_nil : DGsw X vs [] gsNil := PGs.imp pgs_nil fun v σ H Q q => by
  obtain ⟨F, s, G, ds, QD, A, S, r, t, l⟩ := q
  cases r with
  | nil => exact ⟨rfl, l F H _ G _ (.refl F H G) A S rfl t⟩
  | cons _ _ => exact t.elim
theorem dgsw_cons {e : Expr} {es : List Expr} {t : TDG} {u : TDGs} (h1 : DGw X vs e t) (h2 : DGsw X vs es u)
    (hs : (assignEach (e :: es) X.env).map (·.2) = assign e X.env :: (assignEach es X.env).map (·.2) := by rfl) : DGsw X vs (e :: es) (gsCons t u) := PGs.imp (pgs_cons h1 h2 hs) fun v σ H Q q => by
  obtain ⟨F, s, G, ds, QD, A, S, r, t, l⟩ := q
  cases r with
  | nil => exact t.elim
  | cons r1 r2 =>
    refine ⟨_, _, rfl, F, s, G, _, _, A, S, r1, t, fun F1 H1 s1 G1 σ1 st1 A1 S1 w1 q1 => ?_⟩
    exact ⟨F1, s1, G1, _, QD, A1, S1, r2.mono st1.le, q1, fun F2 H2 s2 G2 σ2 st2 A2 S2 w2 => l F2 H2 s2 G2 σ2 (st1.trans st2) A2 S2 (w2.trans w1)⟩
theorem dgw_tup {es : List Expr} {k : Nat} {t : TDGs} {n : Nat} (hc : X.calm = true) (h : DGsw X vs es t)
    (hn : (assignEach es X.env).length = n := by rfl) (hst : (assignEach es X.env).findIdx? (·.1) = none := by rfl) : DGw X vs (.Tuple es k pos) (gTp n t) := PG.imp (pg_tup hc h hn hst) fun v σ H Q q => by
  obtain ⟨F, s, G, d, QD, A, S, r, t, l⟩ := q
  cases r with
  | tup h1 rs => exact ⟨_, _, rfl, A.sqT h1, by rw [← rs.length]; exact t.1, F, s, G, _, QD, A, S, rs, t.2, l⟩
  | _ => exact t.elim
theorem dts_nil : DTs X W [] dYes := PTs.imp pts_nil fun σ H Q q => by
  obtain ⟨F, s, G, QD, ED, A, S, t, l⟩ := q
  exact l.ok F H true G (.refl F H G) A t
theorem dts_one {c : Expr} {t : TDT} (h : DT X W c t) : DTs X W [c] t := pts_one h
/-- a comprehension's loop: D the new list, hidden while it grows -/
theorem lc_lift {t : TDI} {g : TDG} {tt : TDT} {te : TDE} {σ : L2.St} {H : Hp} {Q : VK} {Qd : List D → GD → Prop} {F : Hp} {s : SD} {G : GD} {ED : XD} (A : AbsH X.K F H G) (S : Slots X.K F σ s)
    (q : t s G (fun ds G1 => compD g tt te vs s ds [] G1 Qd) ED)
    (ok : ∀ F1 H1 G1 F' H' ys G' Dn zs, Stp F H G F1 H1 G1 → Stp F1 H1 G1 F' H' G' → AbsH X.K F' H' G' → H1 Dn = none → H' Dn = some (.lst zs) → F' Dn = none → G' Dn = none → Reps X.K F' ys zs → Qd ys G' → Q (.ref Dn) H')
    (ex : ∀ F' H' cls dx fs s' G', Stp F H G F' H' G' → AbsH X.K F' H' G' → Slots X.K F' σ s' → RepX X.K F' H' dx fs → ED cls fs s' G' → W cls dx σ H') :
    tLc (liftI X.K W t) (liftGw X.K vs g) (liftT X.K W0 tt) (liftE X.K W0 te) vs σ H Q := by
  refine ⟨F, s, G, _, ED, A, S, q, ⟨fun F1 H1 ds G1 J st1 A1 wk q1 => ?_, ex⟩⟩
  intro Dn hD
  refine ⟨fun i m H => m = ds.length - i ∧ i ≤ ds.length ∧ ∃ F2 G2 accD accV, Stp F1 H1 G1 F2 H G2 ∧ AbsH X.K F2 H G2 ∧ H Dn = some (.lst accV) ∧ F2 Dn = none ∧ G2 Dn = none ∧ Reps X.K F2 accD accV ∧ compD g tt te vs s (ds.drop i) accD G2 Qd,
    ⟨ds.length, by simp, Nat.zero_le _, F1, G1, [], [], stp_beside hD, A1.beside hD, upd_same, A1.fnone hD, A1.gnone hD, .nil, q1⟩, ?_⟩
  rintro i m H2 ⟨rfl, hi, F2, G2, accD, accV, st2, A2, d2, f2, g2, ra, q2⟩
  have ntb : ∀ ps, HO.lst accV ≠ .tbl ps := fun _ z => by cases z
  by_cases hlt : i < ds.length
  · have e : ds[i]? = some ds[i] := List.getElem?_eq_getElem hlt
    obtain ⟨hgo, hy⟩ := wk.go i _ F2 H2 G2 e st2 A2
    rw [List.drop_eq_getElem_cons hlt] at q2
    refine .inr ⟨hgo, fun H' => ∃ F3 G3 accD accV, Stp F1 H1 G1 F3 H' G3 ∧ AbsH X.K F3 H' G3 ∧ H' Dn = some (.lst accV) ∧ F3 Dn = none ∧ G3 Dn = none ∧ Reps X.K F3 accD accV ∧ compD g tt te vs s (ds.drop (i + 1)) accD G3 Qd,
      fun H' h => ⟨ds.length - (i + 1), by omega, rfl, hlt, h⟩, fun x H' y => ?_⟩
    obtain ⟨F3, st3, A3, r3⟩ := hy x H' y
    have st23 := st2.trans st3
    have sw := (S.mono (st1.trans st23).le).wipe vs
    refine ⟨F3, _, G2, _, _, A3, sw, r3, q2, fun F4 H4 s4 G4 σ4 st4 A4 S4 w4 q4 => ?_⟩
    refine ⟨w4.trans wipe_wipe, F4, s4, G4, _, noX, A4, S4, q4, ⟨fun F5 H5 b G5 st5 A5 q5 => ?_, fun _ _ _ _ _ _ _ _ _ _ _ z => z⟩⟩
    have st25 := (st3.trans st4).trans st5
    have st5' := st2.trans st25
    obtain ⟨d5, f5, g5⟩ := st25.hid Dn _ d2 ntb f2 g2
    cases b with
    | false => exact iteF ⟨F5, G5, accD, accV, st5', A5, d5, f5, g5, ra.mono st25.le, untF q5⟩
    | true =>
      refine iteT ⟨F5, s4, G5, _, noX, A5, S4.mono st5.le, untT q5, ⟨fun F6 H6 y6 G6 v6 st6 A6 r6 q6 => ?_, fun _ _ _ _ _ _ _ _ _ _ _ z => z⟩⟩
      obtain ⟨d6, f6, g6⟩ := st6.hid Dn _ d5 ntb f5 g5
      have rb := ra.mono (st25.trans st6).le
      refine ⟨accV, d6, by rw [← rb.length]; exact q6.1, F6, G6, accD ++ [y6], accV ++ [v6], (st5'.trans st6).hidW hD, A6.hidW f6 g6 d6 trivial, upd_same, f6, g6, rb.append (.cons r6 .nil), q6.2⟩
  · have e : i = ds.length := by omega
    subst e
    rw [List.drop_length] at q2
    exact .inl ⟨wk.stop F2 H2 G2 st2 A2, ok F1 H1 G1 F2 H2 accD G2 Dn accV st1 st2 A2 hD d2 f2 g2 ra q2⟩
/-- a hidden new thing is frozen; may be changed from here on -/
theorem hid_frz {K : PySem.W.Frag} {F1 H1 F H : Hp} {G1 G : GD} {p : Addr} {o : HO} (st : Stp F1 H1 G1 F H G) (A : AbsH K F H G) (hp : H1 p = none) (e : H p = some o) (im : Imm o) (f : F p = none) (g : G p = none) :
    Stp F1 H1 G1 (upd F p o) H G ∧ AbsH K (upd F p o) H G := by
  have l : Le F (upd F p o) := Le.upd f
  refine ⟨⟨st.le.trans l, st.fz, fun b u h n f1 g1 => ?_⟩, ⟨fun a u h => ?_, fun a u h => ?_⟩⟩
  · rw [upd_ne (ne_of_none h hp)]; exact st.hid b u h n f1 g1
  · by_cases q : a = p
    · subst q; rw [upd_same] at h; cases h; exact ⟨im, .inl e⟩
    · rw [upd_ne q] at h; exact A.sub a u h
  · have q : a ≠ p := fun z => by rw [z, g] at h; cases h
    obtain ⟨n, r⟩ := A.obj a u h
    exact ⟨by rw [upd_ne q]; exact n, r.mono l⟩
theorem hid_mut {K : PySem.W.Frag} {F1 H1 F H : Hp} {G1 G : GD} {p : Addr} {d : HOD} (st : Stp F1 H1 G1 F H G) (A : AbsH K F H G) (hp : H1 p = none) (f : F p = none) (r : RepO K F H p d) :
    Stp F1 H1 G1 F H (put G p d) ∧ AbsH K F H (put G p d) := by
  refine ⟨⟨st.le, st.fz, fun b u h n f1 g1 => ?_⟩, ⟨A.sub, fun a u h => ?_⟩⟩
  · rw [put_ne (ne_of_none h hp)]; exact st.hid b u h n f1 g1
  · by_cases q : a = p
    · subst q; rw [put_same] at h; cases h; exact ⟨f, r⟩
    · rw [put_ne q] at h; exact A.obj a u h
section
variable {elt tg iter : Expr} {ifs : List Expr} {scope : Scope} {own : List (Str × Nat)} {pos : Pos} {t : TDI} {g : TDG} {tt : TDT} {te : TDE}
theorem lc_imp {σ : L2.St} {H : Hp} {Q : VK} (q : liftE X.K W (dLc t g tt te vs) σ H Q) : tLc (liftI X.K W t) (liftGw X.K vs g) (liftT X.K W0 tt) (liftE X.K W0 te) vs σ H Q := by
  obtain ⟨F, s, G, QD, ED, A, S, q, l⟩ := q
  refine lc_lift A S q (fun F1 H1 G1 F' H' ys G' Dn zs st1 st2 A2 h1 h2 f2 g2 r q => ?_) l.ex
  obtain ⟨st3, A3⟩ := hid_frz st2 A2 h1 h2 trivial f2 g2
  exact l.ok _ H' _ G' _ (st1.trans st3) A3 (.lst upd_same (r.mono (Le.upd f2))) q
theorem lcM_imp {σ : L2.St} {H : Hp} {Q : VK} (q : liftE X.K W (dLcM t g tt te vs) σ H Q) : tLc (liftI X.K W t) (liftGw X.K vs g) (liftT X.K W0 tt) (liftE X.K W0 te) vs σ H Q := by
  obtain ⟨F, s, G, QD, ED, A, S, q, l⟩ := q
  refine lc_lift A S q (fun F1 H1 G1 F' H' ys G' Dn zs st1 st2 A2 h1 h2 f2 g2 r q => ?_) l.ex
  obtain ⟨st3, A3⟩ := hid_mut (d := .lst ys) st2 A2 h1 f2 ⟨zs, h2, r⟩
  exact l.ok _ H' _ _ _ (st1.trans st3) A3 (.ref Dn) (q Dn g2)
/-- what a comprehension's block is, over data -/
structure BlkD (X : Cx) (W : WX) (elt tg iter : Expr) (ifs : List Expr) (scope : Scope) (own : List (Str × Nat)) (t : TDI) (g : TDG) (tt : TDT) (te : TDE) : Prop where
  hi : DI X W tg iter t
  ok : BlkOk X.N X.env.scope scope own
  hg : ∀ (s : Shared) (H : Hp) (C : Addr) (cl : List (Str × Addr)) (fp : List Addr), DGw (X.blk s H scope (compEnvC scope cl C X.env) fp) (own.map (·.2)) tg g
  ht : ∀ (s : Shared) (H : Hp) (C : Addr) (cl : List (Str × Addr)) (fp : List Addr), DTs (X.blk s H scope (compEnvC scope cl C X.env) fp) W0 ifs tt
  he : ∀ (s : Shared) (H : Hp) (C : Addr) (cl : List (Str × Addr)) (fp : List Addr), DE (X.blk s H scope (compEnvC scope cl C X.env) fp) W0 elt te
theorem de_lc (hc : X.calm = true) (hN : X.N.Nodup) (b : BlkD X W elt tg iter ifs scope own t g tt te) (hs : ∀ x, foldedSetIterable iter X.env x = pure x := by intro _; rfl) :
    DE X W (.ListComp elt [⟨tg, iter, ifs, 0⟩] scope pos) (dLc t g tt te (own.map (·.2))) := PE.imp (pe_lc (own := own) (g := liftGw X.K (own.map Prod.snd) g) (tt := liftT X.K W0 tt) (te := liftE X.K W0 te) hc hN b.hi b.ok b.hg b.ht b.he hs) fun _ _ _ q => lc_imp q
theorem de_lcM (hc : X.calm = true) (hN : X.N.Nodup) (b : BlkD X W elt tg iter ifs scope own t g tt te) (hs : ∀ x, foldedSetIterable iter X.env x = pure x := by intro _; rfl) :
    DE X W (.ListComp elt [⟨tg, iter, ifs, 0⟩] scope pos) (dLcM t g tt te (own.map (·.2))) := PE.imp (pe_lc (own := own) (g := liftGw X.K (own.map Prod.snd) g) (tt := liftT X.K W0 tt) (te := liftE X.K W0 te) hc hN b.hi b.ok b.hg b.ht b.he hs) fun _ _ _ q => lcM_imp q
theorem set_lift {te : TDE} {i : Nat} {Dn : Ends} {σ : L2.St} {H : Hp} (q : liftS X.K W (sAsg te (gNm i)) Dn σ H) : liftE X.K W te σ H (fun x H1 => gName i x σ H1 Dn.nx) := by
  obtain ⟨F, s, G, DD, A, S, t, l⟩ := q
  refine ⟨F, s, G, _, _, A, S, t, ⟨fun F1 H1 d G1 v st1 A1 r1 q1 => ?_, fun F1 H1 c dx fs s' G' st A' S' => l.ex F1 H1 c dx fs s' G' σ st A' S'⟩⟩
  exact l.nx F1 H1 _ G1 _ st1 A1 ((S.mono st1.le).set r1) q1
/-- y = [..] on one line -/
theorem ds_setLc {i : Nat} {y : Str} {py spos : Pos} (hc : X.calm = true) (hN : X.N.Nodup) (hy : X.N[i]? = some y) (hyl : X.env.scope.names.lookup y = some .local)
    (hsw : swapsWith (.ListComp elt [⟨tg, iter, ifs, 0⟩] scope pos) (some (.Name y py)) spos.line X.env = pure true) (b : BlkD X W elt tg iter ifs scope own t g tt te) (hs : ∀ x, foldedSetIterable iter X.env x = pure x := by intro _; rfl) :
    DS X W (.Assign [.Name y py] (.ListComp elt [⟨tg, iter, ifs, 0⟩] scope pos) spos) (sAsg (dLc t g tt te (own.map (·.2))) (gNm i)) :=
  PS.imp (ps_setLc (own := own) (g := liftGw X.K (own.map Prod.snd) g) (tt := liftT X.K W0 tt) (te := liftE X.K W0 te) hc hN hy hyl hsw b.hi b.ok b.hg b.ht b.he hs) fun _ _ _ q => lc_imp (set_lift q)
theorem ds_setLcM {i : Nat} {y : Str} {py spos : Pos} (hc : X.calm = true) (hN : X.N.Nodup) (hy : X.N[i]? = some y) (hyl : X.env.scope.names.lookup y = some .local)
    (hsw : swapsWith (.ListComp elt [⟨tg, iter, ifs, 0⟩] scope pos) (some (.Name y py)) spos.line X.env = pure true) (b : BlkD X W elt tg iter ifs scope own t g tt te) (hs : ∀ x, foldedSetIterable iter X.env x = pure x := by intro _; rfl) :
    DS X W (.Assign [.Name y py] (.ListComp elt [⟨tg, iter, ifs, 0⟩] scope pos) spos) (sAsg (dLcM t g tt te (own.map (·.2))) (gNm i)) :=
  PS.imp (ps_setLc (own := own) (g := liftGw X.K (own.map Prod.snd) g) (tt := liftT X.K W0 tt) (te := liftE X.K W0 te) hc hN hy hyl hsw b.hi b.ok b.hg b.ht b.he hs) fun _ _ _ q => lcM_imp (set_lift q)
end
end
end DL
end
section
set_option maxRecDepth 100000
/-! More rules over data: ==, in, isinstance, the built-in functions, augmented assignments. -/
namespace DL
open PySem PySem.Spec PyProof.Rows L2

/-! ### a module's constant -/
structure KnowsG (K : PySem.W.Frag) (mg : Str → Option Value) (x : Str) (d : D) : Prop where
  ex : ∃ u v, mg x = some u ∧ RelV v u ∧ ∀ F, Rep K F d v
theorem de_const {X : Cx} {W : WX} {x : Str} {d : D} {pos : Pos} (kn : KnowsG X.K X.mg x d) (hg : Gl X x := by rfl) (hd : (x == ("__debug__" : Str)) = false := by decide) : DE X W (.Name x pos) (dC d) := by
  obtain ⟨u, v, hm, r, h⟩ := kn.ex
  exact de_glob hg hm r h hd

/-! ### == -/
mutual
def toPy : D → Option PyData
  | .non => some .none
  | .bl b => some (.bool b)
  | .int i => some (.int i)
  | .str x => some (.str x)
  | .tup ds => (toPys ds).map .tuple
  | .lst ds => (toPys ds).map .list
  | _ => none
def toPys : List D → Option (List PyData)
  | [] => some []
  | d :: ds => match toPy d with
    | some p => (toPys ds).map (p :: ·)
    | none => none
end
/-- also what may be changed, at the top -/
def pyOf (d : D) (G : GD) : Option PyData := match d with
  | .ref a => (match G a with
    | some (.lst ds) => (toPys ds).map .list
    | _ => none)
  | _ => toPy d
section
variable {K : PySem.W.Frag} {F H : Hp} {G : GD}
mutual
theorem dp_of (A : AbsH K F H G) : ∀ {d : D} {v : V} {p : PyData}, Rep K F d v → toPy d = some p → Dp K H v p
  | .non, _, _, .non, e => by cases e; exact .non
  | .bl b, _, _, .bl _, e => by cases e; exact .bl b
  | .int i, _, _, .int _, e => by cases e; exact .int i
  | .str x, _, _, .str _, e => by cases e; exact .str x
  | .tup ds, _, p, .tup h r, e => by
    unfold toPy at e
    cases q : toPys ds with
    | none => rw [q] at e; cases e
    | some ps => rw [q] at e; cases e; exact .tup (A.sqT h) (dps_of A r q)
  | .lst ds, _, p, .lst h r, e => by
    unfold toPy at e
    cases q : toPys ds with
    | none => rw [q] at e; cases e
    | some ps => rw [q] at e; cases e; exact .lst (A.sqL h) (dps_of A r q)
  | .ref _, _, _, .ref _, e => by unfold toPy at e; cases e
  | .ty _, _, _, .ty _, e => by unfold toPy at e; cases e
  | .dict _, _, _, .dict _ _, e => by unfold toPy at e; cases e
  | .ins _ _, _, _, .ins _ _, e => by unfold toPy at e; cases e
  | .scr _, _, _, .scr _ _, e => by unfold toPy at e; cases e
theorem dps_of (A : AbsH K F H G) : ∀ {ds : List D} {vs : List V} {ps : List PyData}, Reps K F ds vs → toPys ds = some ps → DpAll K H vs ps
  | [], _, _, .nil, e => by unfold toPys at e; cases e; exact .nil
  | d :: ds, _, ps, .cons h r, e => by
    unfold toPys at e
    cases q : toPy d with
    | none => rw [q] at e; cases e
    | some p =>
      rw [q] at e
      cases q2 : toPys ds with
      | none => rw [q2] at e; cases e
      | some ps => rw [q2] at e; cases e; exact .cons (dp_of A h q) (dps_of A r q2)
end
theorem dpG_of (A : AbsH K F H G) {d : D} {v : V} {p : PyData} (r : Rep K F d v) (h : pyOf d G = some p) : Dp K H v p := by
  unfold pyOf at h
  split at h
  · rename_i a
    cases r
    split at h
    · rename_i ds e
      obtain ⟨_, vs, e2, rs⟩ := A.obj a _ e
      cases q : toPys ds with
      | none => rw [q] at h; cases h
      | some ps => rw [q] at h; cases h; exact .lst (SqL.of e2) (dps_of A rs q)
    · cases h
  · exact dp_of A r h
end
/-- the answer of == of data -/
def eqR : R2D := fun x y G Q => match x, y with
  | .int i, .int j => Q (.bl (decide (i = j))) G
  | .str i, .str j => Q (.bl (decide (i = j))) G
  | .bl i, .bl j => Q (.bl (decide (i = j))) G
  | x, y => ∃ p q, pyOf x G = some p ∧ pyOf y G = some q ∧ SeqAt.shaped p = true ∧ SeqAt.shaped q = true ∧ Q (.bl (PyData.eqv p q)) G
def neR : R2D := fun x y G Q => match x, y with
  | .int i, .int j => Q (.bl (!decide (i = j))) G
  | .str i, .str j => Q (.bl (!decide (i = j))) G
  | .bl i, .bl j => Q (.bl (!decide (i = j))) G
  | x, y => ∃ p q, pyOf x G = some p ∧ pyOf y G = some q ∧ SeqAt.shaped p = true ∧ SeqAt.shaped q = true ∧ Q (.bl (!PyData.eqv p q)) G
section
variable {X : Cx}
theorem eqd_ii {i j : Int} : decide (V.int i = V.int j) = decide (i = j) := by by_cases h : i = j <;> simp [h]
theorem eqd_ss {i j : Str} : decide (V.str i = V.str j) = decide (i = j) := by by_cases h : i = j <;> simp [h]
theorem eqd_bb {i j : Bool} : decide (V.bl i = V.bl j) = decide (i = j) := by by_cases h : i = j <;> simp [h]
theorem eq_ok (hu : X.A.units + 64 < cLine) : OpR X (compareOp .Eq) (lift2 X.K eqR) := by
  intro pins s σ H x y v u Q I rx ry h
  obtain ⟨F, G, d1, d2, QD, A, r1, r2, t, l⟩ := h
  refine (op_eq.or (op_eqD hu)) pins s σ H x y v u Q I rx ry ?_
  unfold eqR at t
  split at t
  · cases r1; cases r2; exact .inl ⟨rfl, by rw [eqd_ii]; exact l F H _ G _ (.refl F H G) A (.bl _) t⟩
  · cases r1; cases r2; exact .inl ⟨rfl, by rw [eqd_ss]; exact l F H _ G _ (.refl F H G) A (.bl _) t⟩
  · cases r1; cases r2; exact .inl ⟨rfl, by rw [eqd_bb]; exact l F H _ G _ (.refl F H G) A (.bl _) t⟩
  · obtain ⟨p, q, hp, hq, sp, sq, t⟩ := t
    exact .inr ⟨p, q, dpG_of A r1 hp, dpG_of A r2 hq, sp, sq, l F H _ G _ (.refl F H G) A (.bl _) t⟩
theorem ne_ok (hu : X.A.units + 64 < cLine) : OpR X (compareOp .NotEq) (lift2 X.K neR) := by
  intro pins s σ H x y v u Q I rx ry h
  obtain ⟨F, G, d1, d2, QD, A, r1, r2, t, l⟩ := h
  refine (op_ne.or (op_neD hu)) pins s σ H x y v u Q I rx ry ?_
  unfold neR at t
  split at t
  · cases r1; cases r2; exact .inl ⟨rfl, by rw [eqd_ii]; exact l F H _ G _ (.refl F H G) A (.bl _) t⟩
  · cases r1; cases r2; exact .inl ⟨rfl, by rw [eqd_ss]; exact l F H _ G _ (.refl F H G) A (.bl _) t⟩
  · cases r1; cases r2; exact .inl ⟨rfl, by rw [eqd_bb]; exact l F H _ G _ (.refl F H G) A (.bl _) t⟩
  · obtain ⟨p, q, hp, hq, sp, sq, t⟩ := t
    exact .inr ⟨p, q, dpG_of A r1 hp, dpG_of A r2 hq, sp, sq, l F H _ G _ (.refl F H G) A (.bl _) t⟩
end

/-! ### in -/
/-- a flat thing -/
def flatD : D → Bool
  | .non => true
  | .bl _ => true
  | .int _ => true
  | .str _ => true
  | _ => false
/-- == of flat things -/
def eqF : D → D → Bool
  | .non, .non => true
  | .bl a, .bl b => a == b
  | .bl a, .int j => (if a then 1 else 0) == j
  | .int i, .bl b => i == (if b then 1 else 0)
  | .int i, .int j => i == j
  | .str x, .str y => x == y
  | _, _ => false
def inD (x : D) (xs : List D) : Bool := xs.any fun y => eqF y x
/-- one sign in a text; a flat thing in a tuple or a list of flat things -/
def inR : R2D := fun x y G Q => match x, y with
  | .str c, .str z => ∃ n, c = ⟨#[n]⟩ ∧ Q (.bl (decide (n ∈ z.cps.toList))) G
  | x, y => ∃ xs, seqOf y G = some xs ∧ flatD x = true ∧ xs.all flatD = true ∧ Q (.bl (inD x xs)) G
def notInR : R2D := fun x y G Q => match x, y with
  | .str c, .str z => ∃ n, c = ⟨#[n]⟩ ∧ Q (.bl (!decide (n ∈ z.cps.toList))) G
  | x, y => ∃ xs, seqOf y G = some xs ∧ flatD x = true ∧ xs.all flatD = true ∧ Q (.bl (!inD x xs)) G
section
variable {K : PySem.W.Frag} {F : Hp}
theorem flat_rep {d : D} {v : V} (r : Rep K F d v) (h : flatD d = true) : flatV v = true := by
  cases r <;> first | rfl | cases h
theorem flats_rep : ∀ {ds : List D} {vs : List V}, Reps K F ds vs → ds.all flatD = true → vs.all flatV = true
  | _, _, .nil, _ => rfl
  | _, _, .cons h r, e => by
    rw [List.all_cons, Bool.and_eq_true] at e ⊢
    exact ⟨flat_rep h e.1, flats_rep r e.2⟩
theorem eqF_rep {x y : D} {u v : V} (rx : Rep K F x u) (ry : Rep K F y v) (hx : flatD x = true) (hy : flatD y = true) : eqV u v = eqF x y := by
  cases rx <;> cases ry <;> first
    | rfl
    | exact absurd hx Bool.false_ne_true
    | exact absurd hy Bool.false_ne_true
theorem inD_rep {x : D} {u : V} (rx : Rep K F x u) (hx : flatD x = true) : ∀ {ds : List D} {vs : List V}, Reps K F ds vs → ds.all flatD = true → inV u vs = inD x ds
  | _, _, .nil, _ => rfl
  | _, _, .cons h r, e => by
    rw [List.all_cons, Bool.and_eq_true] at e
    have ih := inD_rep rx hx r e.2
    unfold inV inD at ih ⊢
    rw [List.any_cons, List.any_cons, eqF_rep h rx e.1 hx, ih]
end
section
variable {X : Cx}
theorem in_ok : OpR X (compareOp .In) (lift2 X.K inR) := by
  intro pins s σ H x y v u Q I rx ry h
  obtain ⟨F, G, d1, d2, QD, A, r1, r2, t, l⟩ := h
  unfold inR at t
  split at t
  · obtain ⟨n, rfl, t⟩ := t
    cases r1; cases r2
    exact op_in_sign pins s σ H _ _ v u Q I rx ry ⟨n, _, rfl, rfl, l F H _ G _ (.refl F H G) A (.bl _) t⟩
  · obtain ⟨xs, hs, hx, ha, t⟩ := t
    obtain ⟨p, vs, rfl, rs, sq⟩ := rep_seq A r2 hs
    refine op_in_seq pins s σ H _ _ v u Q I rx ry ⟨p, vs, rfl, sq, flat_rep r1 hx, flats_rep rs ha, ?_⟩
    rw [if_neg Bool.false_ne_true, inD_rep r1 hx rs ha]
    exact l F H _ G _ (.refl F H G) A (.bl _) t
theorem notIn_ok : OpR X (compareOp .NotIn) (lift2 X.K notInR) := by
  intro pins s σ H x y v u Q I rx ry h
  obtain ⟨F, G, d1, d2, QD, A, r1, r2, t, l⟩ := h
  unfold notInR at t
  split at t
  · obtain ⟨n, rfl, t⟩ := t
    cases r1; cases r2
    exact op_notIn_sign pins s σ H _ _ v u Q I rx ry ⟨n, _, rfl, rfl, l F H _ G _ (.refl F H G) A (.bl _) t⟩
  · obtain ⟨xs, hs, hx, ha, t⟩ := t
    obtain ⟨p, vs, rfl, rs, sq⟩ := rep_seq A r2 hs
    refine op_notIn_seq pins s σ H _ _ v u Q I rx ry ⟨p, vs, rfl, sq, flat_rep r1 hx, flats_rep rs ha, ?_⟩
    rw [if_pos rfl, inD_rep r1 hx rs ha]
    exact l F H _ G _ (.refl F H G) A (.bl _) t
end

/-! ### calls of built-ins by values -/
abbrev RCD := List D → GD → KD → Prop
def liftC (K : PySem.W.Frag) (r : RCD) : List V → Hp → VK → Prop := fun vs H Q => ∃ F G ds QD, AbsH K F H G ∧ Reps K F ds vs ∧ r ds G QD ∧ ∀ F' H' d G' v, Stp F H G F' H' G' → AbsH K F' H' G' → Rep K F' d v → QD d G' → Q v H'
def dCB (r : RCD) (t : TDA) : TDE := fun s G Q E => t s G (fun ds G1 => r ds G1 Q) E
section
variable {X : Cx} {W : WX} {x : Str} {p pos : Pos} {e : Expr} {es : List Expr} {t : TDA} {r : RCD} {id T : String}
theorem cb_imp {σ : L2.St} {H : Hp} {Q : VK} (q : liftE X.K W (dCB r t) σ H Q) : tCB (liftC X.K r) (liftA X.K W t) σ H Q := by
  obtain ⟨F, s, G, QD, ED, A, S, t, l⟩ := q
  exact ⟨F, s, G, _, ED, A, S, t, ⟨fun F1 H1 ds G1 vs st1 A1 r1 q1 => ⟨F1, G1, ds, QD, A1, r1, q1, (l.mono st1).ok⟩, l.ex⟩⟩
theorem de_callB (hc : CallR X (.builtin id) (liftC X.K r)) (hm : X.mg x = none) (hv : bootBuiltins x = some (.builtin id)) (ha : DA X W (e :: es) t) (hg : Gl X x := by rfl) (hn : x ≠ "__name__" := by decide) (hdb : (x == ("__debug__" : Str)) = false := by decide)
    (he : starEach (e :: es) X.env = (false, eval e X.env) :: starEach es X.env := by rfl) (hpl : (backTo pos (starEach es X.env)).any (·.1) = false := by rfl) : DE X W (.Call (.Name x p) (e :: es) [] pos) (dCB r t) :=
  PE.imp (pe_callB hc hg hm hv ha hn hdb he hpl) fun _ _ _ q => cb_imp q
theorem de_callTy (hc : CallR X (.type T) (liftC X.K r)) (hm : X.mg x = none) (hv : bootBuiltins x = some (.type T)) (ha : DA X W (e :: es) t) (hg : Gl X x := by rfl) (hn : x ≠ "__name__" := by decide) (hdb : (x == ("__debug__" : Str)) = false := by decide)
    (he : starEach (e :: es) X.env = (false, eval e X.env) :: starEach es X.env := by rfl) (hpl : (backTo pos (starEach es X.env)).any (·.1) = false := by rfl) : DE X W (.Call (.Name x p) (e :: es) [] pos) (dCB r t) :=
  PE.imp (pe_callTy hc hg hm hv ha hn hdb he hpl) fun _ _ _ q => cb_imp q
end
theorem reps1 {K : PySem.W.Frag} {F : Hp} {d : D} {vs : List V} (r : Reps K F [d] vs) : ∃ v, vs = [v] ∧ Rep K F d v := by
  cases r with
  | cons r t => cases t; exact ⟨_, rfl, r⟩
theorem reps2 {K : PySem.W.Frag} {F : Hp} {d e : D} {vs : List V} (r : Reps K F [d, e] vs) : ∃ v w, vs = [v, w] ∧ Rep K F d v ∧ Rep K F e w := by
  cases r with
  | cons r t =>
    obtain ⟨w, rfl, r2⟩ := reps1 t
    exact ⟨_, w, rfl, r, r2⟩
/-- len: a text, a tuple, a list -/
def lenR : RCD := fun ds G Q => match ds with
  | [.str z] => z.length ≤ sizeLine ∧ Q (.int z.length) G
  | [d] => ∃ xs, seqOf d G = some xs ∧ Q (.int xs.length) G
  | _ => False
def absR : RCD := fun ds G Q => match ds with
  | [.int i] => Q (.int (if i < 0 then -i else i)) G
  | _ => False
def maxR : RCD := fun ds G Q => match ds with
  | [.int i, .int j] => Q (.int (if j > i then j else i)) G
  | _ => False
def minR : RCD := fun ds G Q => match ds with
  | [.int i, .int j] => Q (.int (if j < i then j else i)) G
  | _ => False
/-- int of an int -/
def intR : RCD := fun ds G Q => match ds with
  | [.int i] => Q (.int i) G
  | _ => False
/-- all, any of a list of bools -/
def allR : RCD := fun ds G Q => match ds with
  | [.lst xs] => ∃ bs : List Bool, xs = bs.map D.bl ∧ Q (.bl (bs.all id)) G
  | _ => False
def anyR : RCD := fun ds G Q => match ds with
  | [.lst xs] => ∃ bs : List Bool, xs = bs.map D.bl ∧ Q (.bl (bs.any id)) G
  | _ => False
/-- str of an int -/
def strR : RCD := fun ds G Q => match ds with
  | [.int i] => i.natAbs.log2 < 1920 ∧ Q (.str (toString i)) G
  | _ => False
/-- tuple, list of a sequence -/
def tupleR : RCD := fun ds G Q => match ds with
  | [d] => ∃ xs, seqOf d G = some xs ∧ Q (.tup xs) G
  | _ => False
def listR : RCD := fun ds G Q => match ds with
  | [d] => ∃ xs, seqOf d G = some xs ∧ Q (.lst xs) G
  | _ => False
def listMR : RCD := fun ds G Q => match ds with
  | [d] => ∃ xs, seqOf d G = some xs ∧ ∀ p, G p = none → Q (.ref p) (put G p (.lst xs))
  | _ => False
section
variable {X : Cx}
theorem len_okD : CallR X (.builtin "len") (liftC X.K lenR) := by
  intro pins s σ H xs us Q I r h
  refine call_len pins s σ H xs us Q I r ?_
  obtain ⟨F, G, ds, QD, A, rs, t, l⟩ := h
  unfold lenR at t
  split at t
  · obtain ⟨v, rfl, r1⟩ := reps1 rs
    cases r1
    exact ⟨_, _, rfl, ⟨t.1, rfl⟩, l F H _ G _ (.refl F H G) A (.int _) t.2⟩
  · obtain ⟨v, rfl, r1⟩ := reps1 rs
    obtain ⟨ys, hy, t⟩ := t
    obtain ⟨p, vs, rfl, rv, sq⟩ := rep_seq A r1 hy
    refine ⟨_, ys.length, rfl, ?_, l F H _ G _ (.refl F H G) A (.int _) t⟩
    rcases sq with sq | sq
    · exact .inl ⟨vs, sq, rv.length⟩
    · exact .inr ⟨vs, sq, rv.length⟩
  · exact t.elim
theorem abs_okD : CallR X (.builtin "abs") (liftC X.K absR) := by
  intro pins s σ H xs us Q I r h
  refine call_abs pins s σ H xs us Q I r ?_
  obtain ⟨F, G, ds, QD, A, rs, t, l⟩ := h
  unfold absR at t
  split at t
  · obtain ⟨v, rfl, r1⟩ := reps1 rs
    cases r1
    exact ⟨_, rfl, l F H _ G _ (.refl F H G) A (.int _) t⟩
  · exact t.elim
theorem max_okD (hc : X.calm = true) : CallR X (.builtin "max") (liftC X.K maxR) := by
  intro pins s σ H xs us Q I r h
  refine call_max2 hc pins s σ H xs us Q I r ?_
  obtain ⟨F, G, ds, QD, A, rs, t, l⟩ := h
  unfold maxR at t
  split at t
  · obtain ⟨v, w, rfl, r1, r2⟩ := reps2 rs
    cases r1; cases r2
    exact ⟨_, _, rfl, l F H _ G _ (.refl F H G) A (.int _) t⟩
  · exact t.elim
theorem min_okD (hc : X.calm = true) : CallR X (.builtin "min") (liftC X.K minR) := by
  intro pins s σ H xs us Q I r h
  refine call_min2 hc pins s σ H xs us Q I r ?_
  obtain ⟨F, G, ds, QD, A, rs, t, l⟩ := h
  unfold minR at t
  split at t
  · obtain ⟨v, w, rfl, r1, r2⟩ := reps2 rs
    cases r1; cases r2
    exact ⟨_, _, rfl, l F H _ G _ (.refl F H G) A (.int _) t⟩
  · exact t.elim
theorem int_okD : CallR X (.type "int") (liftC X.K intR) := by
  intro pins s σ H xs us Q I r h
  refine call_int1 pins s σ H xs us Q I r ?_
  obtain ⟨F, G, ds, QD, A, rs, t, l⟩ := h
  unfold intR at t
  split at t
  · obtain ⟨v, rfl, r1⟩ := reps1 rs
    cases r1
    exact .inl ⟨_, rfl, l F H _ G _ (.refl F H G) A (.int _) t⟩
  · exact t.elim
theorem all_okD (hc : X.calm = true) : CallR X (.builtin "all") (liftC X.K allR) := by
  intro pins s σ H xs us Q I r h
  refine cr_all hc pins s σ H xs us Q I r ?_
  obtain ⟨F, G, ds, QD, A, rs, t, l⟩ := h
  unfold allR at t
  split at t
  · obtain ⟨v, rfl, r1⟩ := reps1 rs
    obtain ⟨bs, rfl, t⟩ := t
    cases r1 with
    | lst h1 rv =>
      have e := rv.bls
      subst e
      exact ⟨_, bs, rfl, A.sqL h1, l F H _ G _ (.refl F H G) A (.bl _) t⟩
  · exact t.elim
theorem any_okD (hc : X.calm = true) : CallR X (.builtin "any") (liftC X.K anyR) := by
  intro pins s σ H xs us Q I r h
  refine cr_any hc pins s σ H xs us Q I r ?_
  obtain ⟨F, G, ds, QD, A, rs, t, l⟩ := h
  unfold anyR at t
  split at t
  · obtain ⟨v, rfl, r1⟩ := reps1 rs
    obtain ⟨bs, rfl, t⟩ := t
    cases r1 with
    | lst h1 rv =>
      have e := rv.bls
      subst e
      exact ⟨_, bs, rfl, A.sqL h1, l F H _ G _ (.refl F H G) A (.bl _) t⟩
  · exact t.elim
theorem str_okD : CallR X (.type "str") (liftC X.K strR) := by
  intro pins s σ H xs us Q I r h
  refine call_str_int pins s σ H xs us Q I r ?_
  obtain ⟨F, G, ds, QD, A, rs, t, l⟩ := h
  unfold strR at t
  split at t
  · obtain ⟨v, rfl, r1⟩ := reps1 rs
    cases r1
    exact ⟨_, rfl, t.1, l F H _ G _ (.refl F H G) A (.str _) t.2⟩
  · exact t.elim
theorem tuple_okD : CallR X (.type "tuple") (liftC X.K tupleR) := by
  intro pins s σ H xs us Q I r h
  refine call_tuple_of pins s σ H xs us Q I r ?_
  obtain ⟨F, G, ds, QD, A, rs, t, l⟩ := h
  unfold tupleR at t
  split at t
  · obtain ⟨v, rfl, r1⟩ := reps1 rs
    obtain ⟨ys, hy, t⟩ := t
    cases r1 with
    | tup h1 rv => cases hy; exact ⟨_, _, rfl, .inr ⟨A.sqT h1, l F H _ G _ (.refl F H G) A (.tup h1 rv) t⟩⟩
    | lst h1 rv => cases hy; exact ⟨_, _, rfl, .inl ⟨A.sqL h1, fun p hp => l _ _ _ G _ (A.stpF hp) (A.laidF hp trivial) (.tup (.inl (.inl upd_same)) (rv.mono (Le.upd (A.fnone hp)))) t⟩⟩
    | scr h1 rv => cases hy; exact ⟨_, _, rfl, .inl ⟨A.sqLK h1, fun p hp => l _ _ _ G _ (A.stpF hp) (A.laidF hp trivial) (.tup (.inl (.inl upd_same)) (rv.mono (Le.upd (A.fnone hp)))) t⟩⟩
    | ref a =>
      have hy : (match G a with
        | some (.lst xs) => some xs
        | _ => none) = some ys := hy
      cases e : G a with
      | none => rw [e] at hy; cases hy
      | some o =>
        rw [e] at hy
        cases o with
        | lst zs =>
          cases hy
          obtain ⟨_, vs, e2, rv⟩ := A.obj a _ e
          exact ⟨_, _, rfl, .inl ⟨SqL.of e2, fun p hp => l _ _ _ G _ (A.stpF hp) (A.laidF hp trivial) (.tup (.inl (.inl upd_same)) (rv.mono (Le.upd (A.fnone hp)))) t⟩⟩
        | _ => cases hy
    | _ => cases hy
  · exact t.elim
theorem list_okD : CallR X (.type "list") (liftC X.K listR) := by
  intro pins s σ H xs us Q I r h
  refine call_list_of pins s σ H xs us Q I r ?_
  obtain ⟨F, G, ds, QD, A, rs, t, l⟩ := h
  unfold listR at t
  split at t
  · obtain ⟨v, rfl, r1⟩ := reps1 rs
    obtain ⟨ys, hy, t⟩ := t
    obtain ⟨p, vs, rfl, rv, sq⟩ := rep_seq A r1 hy
    exact ⟨_, _, rfl, sq, fun p hp => l _ _ _ G _ (A.stpF hp) (A.laidF hp trivial) (.lst upd_same (rv.mono (Le.upd (A.fnone hp)))) t⟩
  · exact t.elim
theorem listM_okD : CallR X (.type "list") (liftC X.K listMR) := by
  intro pins s σ H xs us Q I r h
  refine call_list_of pins s σ H xs us Q I r ?_
  obtain ⟨F, G, ds, QD, A, rs, t, l⟩ := h
  unfold listMR at t
  split at t
  · obtain ⟨v, rfl, r1⟩ := reps1 rs
    obtain ⟨ys, hy, t⟩ := t
    obtain ⟨p, vs, rfl, rv, sq⟩ := rep_seq A r1 hy
    exact ⟨_, _, rfl, sq, fun p hp => l _ _ _ _ _ (stp_new hp) (A.laidG (g := .lst ys) hp ⟨_, upd_same, rv⟩) (.ref p) (t p (A.gnone hp))⟩
  · exact t.elim
end

/-! ### isinstance -/
/-- the facts of an own class that isinstance looks at -/
structure KI (K : PySem.W.Frag) (C : Addr) : Prop where
  cl : Cls K C
  ha : PySem.W.findIn K (.ref C) "__class__" = some (some (.builtin "object.__class__"))
  hn : PySem.W.specialIn K (.builtin "object.__class__") "__get__" = some (some (.builtin "getset_descriptor.__get__"))
  htk : PySem.W.takesIn K (.builtin "object.__class__") = some true
  hm : PySem.W.mroIn K C (.type "object") = some true
def tyName (d : D) (G : GD) : Option String := match d with
  | .non => some "NoneType"
  | .bl _ => some "bool"
  | .int _ => some "int"
  | .str _ => some "str"
  | .tup _ => some "tuple"
  | .lst _ => some "list"
  | .dict _ => some "dict"
  | .ref a => (match G a with
    | some (.lst _) => some "list"
    | some (.dict _) => some "dict"
    | _ => none)
  | _ => none
def tyNames : List String := ["NoneType", "bool", "int", "str", "tuple", "list", "dict"]
def isSub (m n : String) : Bool := m == n || (m == "bool" && n == "int")
theorem kit_sub : ∀ m ∈ tyNames, ∀ n ∈ tyNames, kitB m n = some (isSub m n) := by decide +kernel
theorem tyName_in {d : D} {G : GD} {m : String} (h : tyName d G = some m) : m ∈ tyNames := by
  unfold tyName at h
  split at h <;> first
    | (cases h; decide)
    | (split at h <;> first | (cases h; decide) | cases h)
    | cases h
theorem rep_ty {K : PySem.W.Frag} {F H : Hp} {G : GD} {d : D} {v : V} {m : String} (A : AbsH K F H G) (r : Rep K F d v) (h : tyName d G = some m) : TyX K H v (.type m) := by
  cases r with
  | non => cases h; exact .base .non
  | bl b => cases h; exact .base (.bl b)
  | int i => cases h; exact .base (.int i)
  | str z => cases h; exact .base (.str z)
  | tup h1 _ =>
    cases h
    rcases A.sqT h1 with (e | ⟨o, e⟩) | ⟨o, its, n, e, c, _⟩
    · exact .base (.tup e)
    · exact .fTuple e
    · exact .kTuple e c
  | lst h1 _ =>
    cases h
    rcases A.sqL h1 with (e | ⟨o, e⟩) | ⟨o, its, n, e, c, _⟩
    · exact .base (.lst e)
    · exact .base (.frz e)
    · exact .kList e c
  | dict h1 _ =>
    cases h
    rcases A.dk h1 with e | ⟨o, e⟩
    · exact .base (.dK e)
    · exact .fDict e
  | ref a =>
    have h : (match G a with
      | some (.lst _) => some "list"
      | some (.dict _) => some "dict"
      | _ => none) = some m := h
    cases e : G a with
    | none => rw [e] at h; cases h
    | some o =>
      rw [e] at h
      cases o with
      | lst ds => cases h; obtain ⟨_, vs, e2, _⟩ := A.obj a _ e; exact .base (.lst e2)
      | dict ds => cases h; obtain ⟨_, vs, e2, _⟩ := A.obj a _ e; exact .base (.dK e2)
      | _ => cases h
  | _ => cases h
/-- isinstance(x, T), T a built-in type -/
def isiR (K : PySem.W.Frag) (n : String) : RCD := fun ds G Q => match ds with
  | [d, _] => (∃ m, tyName d G = some m ∧ Q (.bl (isSub m n)) G) ∨ ∃ C fs b, insOf d G = some (C, fs) ∧ KI K C ∧ PySem.W.kitOne K (.ref C) (.type n) = some b ∧ Q (.bl b) G
  | _ => False
/-- isinstance(x, C), C an own class -/
def isiCR (K : PySem.W.Frag) (C0 : Addr) : RCD := fun ds G Q => match ds with
  | [d, _] => (∃ m, tyName d G = some m ∧ Q (.bl false) G) ∨ ∃ C fs b, insOf d G = some (C, fs) ∧ KI K C ∧ PySem.W.kitOne K (.ref C) (.ref C0) = some b ∧ Q (.bl b) G
  | _ => False
section
variable {X : Cx} {W : WX} {pos p p2 : Pos} {e : Expr} {te : TDE}
theorem de_isi {K : PySem.W.Frag} {T : Str} {n : String} (hm : X.mg "isinstance" = none) (hT : X.mg T = none) (hv : bootBuiltins T = some (.type n)) (hn : n ∈ tyNames) (he : DE X W e te) (hg : Gl X "isinstance" := by rfl) (hgT : Gl X T := by rfl) (hnT : T ≠ "__name__" := by decide)
    (hd : (T == ("__debug__" : Str)) = false := by decide) (hse : starEach [e, .Name T p2] X.env = (false, eval e X.env) :: starEach [.Name T p2] X.env := by rfl) (hst : starEach [.Name T p2] X.env = (false, eval (.Name T p2) X.env) :: starEach [] X.env := by rfl)
    (hpl : (backTo pos (starEach [.Name T p2] X.env)).any (·.1) = false := by rfl) (hK : X.K = K := by rfl) : DE X W (.Call (.Name "isinstance" p) [e, .Name T p2] [] pos) (dCB (isiR K n) (dCons te (dCons (dC (.ty n)) dNil))) := by
  subst hK
  refine PE.imp (pe_callB call_isi hg hm (by decide +kernel) (pa_cons he (pa_cons (pe_bltn (v := .ty n) hgT hT hv rfl hnT hd) pa_nil hst) hse) (by decide) (by decide) hse hpl) fun σ H Q q => ?_
  obtain ⟨F, s, G, QD, ED, A, S, t, l⟩ := q
  refine ⟨F, s, G, _, ED, A, S, t, ⟨fun F1 H1 d1 G1 v st1 A1 r1 q1 => ?_, l.ex⟩⟩
  rcases q1 with ⟨m, hm, q1⟩ | ⟨C, fs, b, hi, ki, hk, q1⟩
  · exact ⟨v, _, _, _, _, rfl, .ty n, rep_ty A1 r1 hm, kit_ty (kit_sub m (tyName_in hm) n hn), l.ok F1 H1 _ G1 _ st1 A1 (.bl _) q1⟩
  · obtain ⟨a, dx, fs', rfl, ea, rs⟩ := rep_ins A1 r1 hi
    exact ⟨_, _, _, _, b, rfl, .ty n, .base (.ins ea ki.cl ki.ha ki.hn ki.htk ki.hm), hk, l.ok F1 H1 _ G1 _ st1 A1 (.bl _) q1⟩
theorem de_isiC {K : PySem.W.Frag} {T : Str} {C0 : Addr} (hm : X.mg "isinstance" = none) (hT : X.mg T = some (.ref C0)) (hk0 : ∀ m ∈ tyNames, PySem.W.kitOne X.K (.type m) (.ref C0) = some false) (he : DE X W e te) (hg : Gl X "isinstance" := by rfl) (hgT : Gl X T := by rfl)
    (hd : (T == ("__debug__" : Str)) = false := by decide) (hse : starEach [e, .Name T p2] X.env = (false, eval e X.env) :: starEach [.Name T p2] X.env := by rfl) (hst : starEach [.Name T p2] X.env = (false, eval (.Name T p2) X.env) :: starEach [] X.env := by rfl)
    (hpl : (backTo pos (starEach [.Name T p2] X.env)).any (·.1) = false := by rfl) (hK : X.K = K := by rfl) : DE X W (.Call (.Name "isinstance" p) [e, .Name T p2] [] pos) (dCB (isiCR K C0) (dCons te (dCons (dC (.ref C0)) dNil))) := by
  subst hK
  refine PE.imp (pe_callB call_isi hg hm (by decide +kernel) (pa_cons he (pa_cons (pe_glob (v := .ref C0) hgT hT rfl hd) pa_nil hst) hse) (by decide) (by decide) hse hpl) fun σ H Q q => ?_
  obtain ⟨F, s, G, QD, ED, A, S, t, l⟩ := q
  refine ⟨F, s, G, _, ED, A, S, t, ⟨fun F1 H1 d1 G1 v st1 A1 r1 q1 => ?_, l.ex⟩⟩
  rcases q1 with ⟨m, hm, q1⟩ | ⟨C, fs, b, hi, ki, hk, q1⟩
  · exact ⟨v, _, _, _, _, rfl, .own C0, rep_ty A1 r1 hm, hk0 m (tyName_in hm), l.ok F1 H1 _ G1 _ st1 A1 (.bl _) q1⟩
  · obtain ⟨a, dx, fs', rfl, ea, rs⟩ := rep_ins A1 r1 hi
    exact ⟨_, _, _, _, b, rfl, .own C0, .base (.ins ea ki.cl ki.ha ki.hn ki.htk ki.hm), hk, l.ok F1 H1 _ G1 _ st1 A1 (.bl _) q1⟩
end

/-! ### name op= e, -e -/
def sAug (i : Nat) (te : TDE) (r : R2D) : TDS := fun D s G => match s[i]? with
  | some (some d) => te s G (fun d2 G1 => r d d2 G1 fun z G2 => D.nx (s.set i (some z)) G2) D.ex
  | _ => False
def augAddR : R2D := fun x y G Q => match x, y with
  | .int i, .int j => Q (.int (i + j)) G
  | _, _ => False
def negR (d : D) (G : GD) (Q : KD) : Prop := match d with
  | .int i => Q (.int (-i)) G
  | _ => False
def dUn (r : D → GD → KD → Prop) (t : TDE) : TDE := fun s G Q E => t s G (fun d G1 => r d G1 Q) E
section
variable {X : Cx} {W : WX} {pos pos' : Pos} {e : Expr} {te : TDE}
theorem ds_aug {i : Nat} {x : Str} {op : Operator} {r : R2D} {ti : TIp} (hN : X.N.Nodup) (hi : X.N[i]? = some x) (hx : Loc X.env.scope x) (he : DE X W e te) (ho : PIp X op ti) (hr : ∀ u v H Q, lift2 X.K r u v H Q → ti u v H Q)
    (hf : X.fn x = true ∨ X.env.scope.names.lookup x = some .local := by first | exact .inl rfl | exact .inr rfl | assumption) : DS X W (.AugAssign (.Name x pos') op e pos) (sAug i te r) := PS.imp (ps_aug hN hi hx he ho hf) fun Dn σ H q => by
  obtain ⟨F, s, G, DD, A, S, t, l⟩ := q
  unfold sAug at t
  split at t
  · rename_i d e
    obtain ⟨v, ev, rv⟩ := S.at_ i d e
    refine ⟨v, ev, F, s, G, _, _, A, S, t, ⟨fun F1 H1 d1 G1 y st1 A1 r1 q1 => ?_, fun F1 H1 c dx fs s' G' st A' S' => l.ex F1 H1 c dx fs s' G' σ st A' S'⟩⟩
    refine hr _ _ _ _ ⟨F1, G1, d, d1, _, A1, rv.mono st1.le, r1, q1, fun F2 H2 z G2 w st2 A2 r2 q2 => ?_⟩
    exact l.nx F2 H2 _ G2 _ (st1.trans st2) A2 ((S.mono (st1.trans st2).le).set r2) q2
  · exact t.elim
theorem aug_add (u v : V) (H : Hp) (Q : VK) (q : lift2 X.K augAddR u v H Q) : ipI (fun i j => i + j) u v H Q := by
  obtain ⟨F, G, d1, d2, QD, A, r1, r2, t, l⟩ := q
  unfold augAddR at t
  split at t
  · cases r1; cases r2; exact ⟨_, _, rfl, rfl, l F H _ G _ (.refl F H G) A (.int _) t⟩
  · exact t.elim
theorem de_neg (he : DE X W e te) : DE X W (.UnaryOp .USub e pos) (dUn negR te) := PE.imp (pe_un un_neg he) fun σ H Q q => by
  obtain ⟨F, s, G, QD, ED, A, S, t, l⟩ := q
  refine ⟨F, s, G, _, ED, A, S, t, ⟨fun F1 H1 d1 G1 y st1 A1 r1 q1 => ?_, l.ex⟩⟩
  unfold negR at q1
  split at q1
  · cases r1; exact ⟨_, rfl, l.ok F1 H1 _ G1 _ st1 A1 (.int _) q1⟩
  · exact q1.elim
end
end DL
end
section
set_option maxRecDepth 100000
/-! Chains of three, what is walked, the words that the printed terms use. -/
namespace DL
open PySem PySem.Spec PyProof.Rows L2

/-! ### a < b < c < d -/
def tChain3 (r1 r2 r3 : R2) (ta tb tc td : TE) : TE := fun σ H Q => ta σ H fun x H1 => tb σ H1 fun y H2 => r1 x y H2 fun z H3 => ∃ k, z = .bl k ∧
  (if k = true then tc σ H3 fun u H4 => r2 y u H4 fun z2 H5 => ∃ k2, z2 = .bl k2 ∧ (if k2 = true then td σ H5 fun v H6 => r3 u v H6 Q else Q (.bl false) H5) else Q (.bl false) H3)
def dChain3 (r1 r2 r3 : R2D) (ta tb tc td : TDE) : TDE := fun s G Q E => ta s G (fun d1 G1 => tb s G1 (fun d2 G2 => r1 d1 d2 G2 fun z G3 => match z with
  | .bl k => if k = true then tc s G3 (fun d3 G4 => r2 d2 d3 G4 fun z2 G5 => match z2 with
    | .bl k2 => if k2 = true then td s G5 (fun d4 G6 => r3 d3 d4 G6 Q) E else Q (.bl false) G5
    | _ => False) E else Q (.bl false) G3
  | _ => False) E) E
section
variable {X : Cx} {W : WX} {a b c d : Expr} {ta tb tc td : TE} {da db dc dd : TDE} {pos : Pos} {o1 o2 o3 : CmpOp} {r1 r2 r3 : R2} {q1 q2 q3 : R2D}
theorem pe_chain3 (h1 : OpR X (compareOp o1) r1) (h2 : OpR X (compareOp o2) r2) (h3 : OpR X (compareOp o3) r3) (ha : PE X a ta) (hb : PE X b tb) (hc : PE X c tc) (hd : PE X d td)
    (hm : lastMarks [o1, o2, o3] [b, c, d] = false := by with_unfolding_all rfl) : PE X (.Compare a [o1, o2, o3] [b, c, d] pos) (tChain3 r1 r2 r3 ta tb tc td) := by
  constructor
  intro pins s σ H Q I h
  refine Compare_chain (thn (ha.run pins s σ H _ I h) fun v s1 ⟨x, H1, I1, e1, q1⟩ => chain_link (thn (hb.run pins s1 σ H1 _ I1 q1) fun u s2 ⟨y, H2, I2, e2, q2⟩ =>
    thn (h1 pins s2 σ H2 x y v u _ I2 e1 e2 q2) fun k s3 ⟨z, H3, I3, e3, kb, ez, q3⟩ => ?_)) hm
  subst ez
  cases e3
  refine wpAny_truthy_bool ?_
  cases kb with
  | false => exact ite_ff ⟨.bl false, H3, I3, rfl, untF q3⟩
  | true =>
    refine ite_tt (chain_link (thn (hc.run pins s3 σ H3 _ I3 (untT q3)) fun u4 s4 ⟨y4, H4, I4, e4, q4⟩ => thn (h2 pins s4 σ H4 y y4 u u4 _ I4 e2 e4 q4) fun k5 s5 ⟨z5, H5, I5, e5, kb5, ez5, q5⟩ => ?_))
    subst ez5
    cases e5
    refine wpAny_truthy_bool ?_
    cases kb5 with
    | false => exact ite_ff ⟨.bl false, H5, I5, rfl, untF q5⟩
    | true => exact ite_tt (chain_last (thn (hd.run pins s5 σ H5 _ I5 (untT q5)) fun u6 s6 ⟨y6, H6, I6, e6, q6⟩ => h3 pins s6 σ H6 y4 y6 u4 u6 Q I6 e4 e6 q6))
theorem pt_chain3 (h1 : OpR X (compareOp o1) r1) (h2 : OpR X (compareOp o2) r2) (h3 : OpR X (compareOp o3) r3) (ha : PE X a ta) (hb : PE X b tb) (hc : PE X c tc) (hd : PE X d td)
    (hm : lastMarks [o1, o2, o3] [b, c, d] = false := by with_unfolding_all rfl) : PT X (.Compare a [o1, o2, o3] [b, c, d] pos) (tTest (tChain3 r1 r2 r3 ta tb tc td)) := by
  constructor
  intro pins s σ H Q I h
  refine isTrue_chain (thn (ha.run pins s σ H _ I h) fun v s1 ⟨x, H1, I1, e1, q1⟩ => test_link (thn (hb.run pins s1 σ H1 _ I1 q1) fun u s2 ⟨y, H2, I2, e2, q2⟩ =>
    thn (h1 pins s2 σ H2 x y v u _ I2 e1 e2 q2) fun k s3 ⟨z, H3, I3, e3, kb, ez, q3⟩ => ?_)) hm
  subst ez
  cases e3
  refine wpAny_truthy_bool ?_
  cases kb with
  | false =>
    obtain ⟨k', e', q'⟩ := untF q3
    cases e'
    exact ite_ff ⟨H3, I3, q'⟩
  | true =>
    refine ite_tt (test_link (thn (hc.run pins s3 σ H3 _ I3 (untT q3)) fun u4 s4 ⟨y4, H4, I4, e4, q4⟩ => thn (h2 pins s4 σ H4 y y4 u u4 _ I4 e2 e4 q4) fun k5 s5 ⟨z5, H5, I5, e5, kb5, ez5, q5⟩ => ?_))
    subst ez5
    cases e5
    refine wpAny_truthy_bool ?_
    cases kb5 with
    | false =>
      obtain ⟨k', e', q'⟩ := untF q5
      cases e'
      exact ite_ff ⟨H5, I5, q'⟩
    | true =>
      refine ite_tt (test_last (thn (hd.run pins s5 σ H5 _ I5 (untT q5)) fun u6 s6 ⟨y6, H6, I6, e6, q6⟩ => thn (h3 pins s6 σ H6 y4 y6 u4 u6 _ I6 e4 e6 q6) fun k7 s7 ⟨z7, H7, I7, e7, kb7, ez7, q7⟩ => ?_))
      subst ez7
      cases e7
      exact wpAny_truthy_bool ⟨H7, I7, q7⟩
theorem chain3_of {σ : L2.St} {H : Hp} {Q : VK} (q : liftE X.K W (dChain3 q1 q2 q3 da db dc dd) σ H Q) :
    tChain3 (lift2 X.K q1) (lift2 X.K q2) (lift2 X.K q3) (liftE X.K W da) (liftE X.K W db) (liftE X.K W dc) (liftE X.K W dd) σ H Q := by
  obtain ⟨F, s, G, QD, ED, A, S, t, l⟩ := q
  refine ⟨F, s, G, _, ED, A, S, t, ⟨fun F1 H1 d1 G1 x st1 A1 r1 q1 => ?_, l.ex⟩⟩
  refine ⟨F1, s, G1, _, ED, A1, S.mono st1.le, q1, ⟨fun F2 H2 d2 G2 y st2 A2 r2 q2 => ?_, (l.mono st1).ex⟩⟩
  refine ⟨F2, G2, d1, d2, _, A2, r1.mono st2.le, r2, q2, fun F3 H3 d G3 v st3 A3 r3 q3 => ?_⟩
  have st := (st1.trans st2).trans st3
  cases r3 with
  | bl k =>
    refine ⟨k, rfl, ?_⟩
    cases k with
    | false => exact iteF (l.ok F3 H3 _ G3 _ st A3 (.bl _) (untF q3))
    | true =>
      refine iteT ⟨F3, s, G3, _, ED, A3, S.mono st.le, untT q3, ⟨fun F4 H4 d3 G4 z st4 A4 r4 q4 => ?_, (l.mono st).ex⟩⟩
      have st' := st.trans st4
      refine ⟨F4, G4, d2, d3, _, A4, r2.mono (st3.trans st4).le, r4, q4, fun F5 H5 d5 G5 v5 st5 A5 r5 q5 => ?_⟩
      have st6 := st'.trans st5
      cases r5 with
      | bl k5 =>
        refine ⟨k5, rfl, ?_⟩
        cases k5 with
        | false => exact iteF (l.ok F5 H5 _ G5 _ st6 A5 (.bl _) (untF q5))
        | true =>
          refine iteT ⟨F5, s, G5, _, ED, A5, S.mono st6.le, untT q5, ⟨fun F7 H7 d7 G7 z7 st7 A7 r7 q7 => ?_, (l.mono st6).ex⟩⟩
          exact ⟨F7, G7, d3, d7, QD, A7, r4.mono (st5.trans st7).le, r7, q7, fun F8 H8 d8 G8 v8 st8 => l.ok F8 H8 d8 G8 v8 ((st6.trans st7).trans st8)⟩
      | _ => exact q5.elim
  | _ => exact q3.elim
theorem de_chain3 (h1 : OpR X (compareOp o1) (lift2 X.K q1)) (h2 : OpR X (compareOp o2) (lift2 X.K q2)) (h3 : OpR X (compareOp o3) (lift2 X.K q3)) (ha : DE X W a da) (hb : DE X W b db) (hc : DE X W c dc) (hd : DE X W d dd)
    (hm : lastMarks [o1, o2, o3] [b, c, d] = false := by with_unfolding_all rfl) : DE X W (.Compare a [o1, o2, o3] [b, c, d] pos) (dChain3 q1 q2 q3 da db dc dd) := PE.imp (pe_chain3 h1 h2 h3 ha hb hc hd hm) fun _ _ _ q => chain3_of q
theorem dt_chain3 (h1 : OpR X (compareOp o1) (lift2 X.K q1)) (h2 : OpR X (compareOp o2) (lift2 X.K q2)) (h3 : OpR X (compareOp o3) (lift2 X.K q3)) (ha : DE X W a da) (hb : DE X W b db) (hc : DE X W c dc) (hd : DE X W d dd)
    (hm : lastMarks [o1, o2, o3] [b, c, d] = false := by with_unfolding_all rfl) : DT X W (.Compare a [o1, o2, o3] [b, c, d] pos) (dTest (dChain3 q1 q2 q3 da db dc dd)) := PT.imp (pt_chain3 h1 h2 h3 ha hb hc hd hm) fun _ _ _ q => test_of (fun _ _ _ z => chain3_of z) q
end

/-! ### what is walked, of any of these kinds -/
/-- the items of a tuple, a list, the signs of a text -/
def itemsOf (d : D) (G : GD) : Option (List D) := match d with
  | .lst xs => some xs
  | .tup xs => some xs
  | .str z => some (z.cps.toList.map fun c => .str ⟨#[c]⟩)
  | _ => none
def iSeq (t : TDE) : TDI := fun s G Q E => t s G (fun d G1 => ∃ xs, itemsOf d G1 = some xs ∧ Q xs G1) E
/-- a list, a tuple or a text, by what has come -/
def iAnyV (K : PySem.W.Frag) (te : TE) : TI := fun σ H R => te σ H fun x H1 => (∃ a xs, x = .ref a ∧ SqL K H1 a xs ∧ R (Itl K a) H1) ∨ (∃ a xs, x = .ref a ∧ SqT K H1 a xs ∧ R (Itt K a) H1) ∨ ∃ z, x = .str z ∧ R (Its z) H1
theorem pi_any {X : Cx} {tg e : Expr} {te : TE} (he : PE X e te) : PI X tg e (iAnyV X.K te) := by
  constructor
  intro pins s σ H R I h
  refine thn (he.run pins s σ H _ I h) fun v s1 ⟨x, H1, I1, r1, q1⟩ => ?_
  have own : ∀ b ∈ [s1.heap.objs.size], FpOk X pins H1 b := fun b hb => by
    have e : b = s1.heap.objs.size := by simpa using hb
    subst e
    exact I1.fpOk (Nat.le_refl _) (I1.hok.fresh (Nat.le_refl _))
  rcases q1 with ⟨a, xs, rfl, sq, q⟩ | ⟨a, xs, rfl, sq, q⟩ | ⟨z, rfl, q⟩
  · cases r1
    obtain ⟨its, rv, pl, _⟩ := I1.list sq
    exact wpAny_pyIter_list pl.isList ⟨_, [s1.heap.objs.size], _, _, H1, rfl, I1.kept (t' := s1.toks) fun b o e => Heap.get?_push_of_some _ e, turn_list a _, ⟨_, Heap.get?_push_size _ rfl, rfl, rfl⟩, own, q⟩
  · cases r1
    obtain ⟨its, rv, pl, _⟩ := I1.tuple sq
    exact wpAny_pyIter_tuple (show s1.heap.IsTuple a its.toArray from pl) ⟨_, [s1.heap.objs.size], _, _, H1, rfl, I1.kept (t' := s1.toks) fun b o e => Heap.get?_push_of_some _ e, turn_tuple a _, ⟨_, Heap.get?_push_size _ rfl, rfl, rfl⟩, own, q⟩
  · obtain ⟨t, rfl⟩ := r1
    cases hz : z.cps.all (· < 128) with
    | false => exact wpAny_pyIter_wide hz (pi_one (tk := s1.toks) I1 _ (turn_str _ z t "str_iterator" (.inr rfl)) ⟨_, Heap.get?_push_size _ rfl, rfl, rfl⟩ q)
    | true => exact wpAny_pyIter_ascii hz (pi_one (tk := s1.toks) I1 _ (turn_str _ z t "str_ascii_iterator" (.inl rfl)) ⟨_, Heap.get?_push_size _ rfl, rfl, rfl⟩ q)
theorem di_seq {X : Cx} {W : WX} {tg e : Expr} {t : TDE} (h : DE X W e t) : DI X W tg e (iSeq t) := PI.imp (pi_any h) fun σ H R q => by
  obtain ⟨F, s, G, QD, ED, A, S, t, l⟩ := q
  refine ⟨F, s, G, _, ED, A, S, t, ⟨fun F1 H1 d1 G1 x st1 A1 r1 q1 => ?_, l.ex⟩⟩
  obtain ⟨xs, hx, q1⟩ := q1
  cases r1 with
  | lst h1 rs => cases hx; exact .inl ⟨_, _, rfl, A1.sqL h1, l.ok F1 H1 _ G1 _ st1 A1 (walk_seqL rs fun F2 H2 G2 st2 A2 => A2.sqL (st2.le.sqL h1)) q1⟩
  | tup h1 rs => cases hx; exact .inr (.inl ⟨_, _, rfl, A1.sqT h1, l.ok F1 H1 _ G1 _ st1 A1 (walk_seqT rs fun F2 H2 G2 st2 A2 => A2.sqT (st2.le.sqT h1)) q1⟩)
  | str z => cases hx; exact .inr (.inr ⟨z, rfl, l.ok F1 H1 _ G1 _ st1 A1 walk_str q1⟩)
  | _ => cases hx
/-! ### words of the printed terms -/
section
variable {P : Program} {w : World} {K : PySem.W.Frag} {mg : Str → Option Value} {base : Heap} {N : List Str} {qual : Str} {scope : Scope} {f : Addr} {cdv : Value} {A : Around} {outer : List Env} {s : Shared} {H : Hp} {E : XK}
theorem tk0 : Takes (cxOf (L2.CX P w) P w K mg base N qual scope f cdv A outer s H E) (fun cls d _ H' => E cls d H') := takes_of rfl rfl rfl rfl
theorem po0 : PassesOwn (model P w) (A.deeper (envOfC qual scope s.heap.objs.size f cdv)) (envOfC qual scope s.heap.objs.size f cdv) (cxOf (L2.CX P w) P w K mg base N qual scope f cdv A outer s H E).xe :=
  passes_of (X := cxOf (L2.CX P w) P w K mg base N qual scope f cdv A outer s H E) rfl
theorem takes0 {X : Cx} : Takes X W0 := L2.takes0
/-- from a def without defaults -/
theorem kn_of {x q2 : Str} {st : Stmt} {fd : FuncData} {ps : List Str} {k : Nat} {sp : SpD} (hm : mg x = some (.ref f)) (Fu : FunD K x q2 (defArgs st) (defBody st) (defScope st) [] [] f fd) (F : FnD P w K mg base k f fd ps sp)
    (hb : ∀ (kV doc pm : Value) (an : Option Addr) (cdv ct : Value) (us : List Value), us.length = ps.length → bindArgs (PySem.W.fnOf x q2 (defArgs st) (defBody st) (defScope st) .none kV doc pm an cdv ct) ⟨us, []⟩ = pure (ps.zip us)) :
    Knows P w K mg base x k [] sp := ⟨⟨f, fd, ps, [], [], hm, Fu.kp, F, Fu.bindsN hb, .nil, fun _ => .nil⟩⟩
end
end DL
end
section
set_option maxRecDepth 100000
/-! {**a, **b} over the heap alone. -/
namespace DL
open PySem PySem.Spec PyProof.Rows L2
section
variable {prog : Program} {w : World} {κ : Type} [DecidableEq κ] {knd : KeyKind prog w κ} {A : Around} {E : Value → Shared → Prop} {s : Shared}
theorem dictPut_pairs {d : Addr} {kvs : List (κ × Value)} {k : κ} {key v : Value} {Q : Unit → Shared → Prop} (hkey : knd.is k key = true) (hm : s.heap.DictOf knd d kvs) (hsz : kvs.length ≤ sizeLine)
    (hQ : ∀ h', h'.DictOf knd d (stored kvs k v) → Heap.SameBut d s.heap h' → Q () { s with heap := h' }) : wpAny (model prog w) A (dictPut d (knd.hash k) key v) Q E s := by
  obtain ⟨o, es, ep, ho, hc, hd, hk, hp, hn⟩ := hm
  have hes : es.size ≤ sizeLine := by
    have e1 := hp.length
    have e2 : es.toList.length = es.size := by simp
    omega
  unfold dictPut
  refine wpAny_bind (wpAny_dictFind_of hkey ho hd hk ?_)
  have hidx : (es.findIdx? fun e => knd.is k e.key) = kvs.findIdx? fun kv => decide (kv.1 = k) := by
    rw [← hp.findIdx k]; obtain ⟨l⟩ := es; simp
  cases hi : es.findIdx? fun e => knd.is k e.key with
  | some i =>
    refine wpAny_updateDict ho hd (hQ _ ⟨_, _, ep, Heap.get?_update_self _ ho (Obj.isFreed_of_dict (Obj.data_mapDict hd _)), hc.mapDict _, Obj.data_mapDict hd _, hk.modify _ _, ?_, ?_⟩ (Heap.SameBut.update ..))
    · rw [stored, if_pos (any_of_findIdx_some (hidx ▸ hi))]
      have hl : (es.toList.findIdx? fun e => knd.is k e.key) = some i := by rw [← hi]; obtain ⟨l⟩ := es; simp
      have := hp.modify hn hl v
      obtain ⟨l⟩ := es
      simpa using this
    · rw [stored, if_pos (any_of_findIdx_some (hidx ▸ hi)), keys_map_store]; exact hn
  | none =>
    have hnot : k ∉ kvs.map (·.1) := not_mem_of_findIdx_none (hidx ▸ hi)
    have hany : ¬ (kvs.any fun kv => decide (kv.1 = k)) = true := by
      rw [List.any_eq_true]; rintro ⟨kv, hkv, he⟩
      exact hnot (List.mem_map.mpr ⟨kv, hkv, of_decide_eq_true he⟩)
    refine wpAny_updateDictKeys (hz := hes) ho hd (hQ _ ⟨_, _, ep + 1, Heap.get?_update_self _ ho (Obj.isFreed_of_dict (Obj.data_mapDictKeys hd _)), hc.mapDictKeys _, Obj.data_mapDictKeys hd _, hk.push hkey _, ?_, ?_⟩ (Heap.SameBut.update ..))
    · rw [stored, if_neg hany]
      have := hp.append hkey (knd.hash k) v
      obtain ⟨l⟩ := es
      simpa using this
    · rw [stored, if_neg hany, List.map_append, List.nodup_append]
      refine ⟨hn, by simp, ?_⟩
      intro a ha b hb
      simp only [List.map_cons, List.map_nil, List.mem_singleton] at hb
      subst hb
      exact fun e => hnot (e ▸ ha)
theorem wpAny_mergeMapping {d o : Addr} {kvs more : List (κ × Value)} {Q : Unit → Shared → Prop} (hdo : d ≠ o) (hoS : (o == sysModules) = false) (hd : s.heap.DictOf knd d kvs) (ho : s.heap.DictOf knd o more) (hsz : kvs.length + more.length ≤ sizeLine)
    (hQ : ∀ h', h'.DictOf knd d (merged kvs more) → Heap.SameBut d s.heap h' → Q () { s with heap := h' }) : wpAny (model prog w) A (mergeMapping d (.ref o) false) Q E s := by
  obtain ⟨od, esd, epd, hod, hcd, hdd, hkd, hpd, hnd⟩ := id hd
  obtain ⟨oo, eso, epo, hoo, hco, hdo', hko, hpo, hno⟩ := id ho
  have hlen : more.length = eso.size := by rw [← hpo.length]; simp
  have inner : ∀ (Q' : Unit → Shared → Prop), (∀ h', h'.DictOf knd d (merged kvs more) → Heap.SameBut d s.heap h' → Q' () { s with heap := h' }) → wpAny (model prog w) A (do
      let l ← dictEntries o
      let epoch ← dictEpoch o
      forIn (List.range l.size) PUnit.unit fun i (_ : PUnit) => (do
          let l' ← dictEntries o
          match l'[i]? with
            | some e => do
              holding [e.key, e.val] (dictPut d e.hash e.key e.val)
              let ep' ← dictEpoch o
              if (ep' != epoch) = true then do
                  (unsupported "dict.changed-during-merge" : Sem PUnit)
                  pure (ForInStep.yield PUnit.unit)
                else pure (ForInStep.yield PUnit.unit)
            | _ => do
              (unsupported "dict.changed-during-merge" : Sem PUnit)
              pure (ForInStep.yield PUnit.unit) : Sem (ForInStep PUnit))
      pure ()) Q' E s := by
    intro Q' hQ
    refine wpAny_bind (wpAny_dictEntries hoo hdo' ?_)
    refine wpAny_bind (wpAny_dictEpoch hoo hdo' ?_)
    refine wpAny_bind ?_
    refine wpAny_forIn_list _
      (fun rest _ s' => ∃ h' i, s' = { s with heap := h' } ∧ rest = (List.range eso.size).drop i ∧ i ≤ eso.size ∧ h'.DictOf knd d (merged kvs (more.take i)) ∧ h'.get? o = some oo ∧ Heap.SameBut d s.heap h')
      _ ?_ ?_ _ _ ⟨s.heap, 0, rfl, by simp, Nat.zero_le _, by simpa [merged] using hd, hoo, Heap.SameBut.refl _ _⟩
    · rintro x rest b s' ⟨h', i, rfl, hr, hi, hd', hoo', hs'⟩
      have hlt : i < eso.size := by
        rcases Nat.lt_or_ge i eso.size with h | h
        · exact h
        · rw [List.drop_eq_nil_of_le (by simpa using h)] at hr; simp at hr
      obtain ⟨rfl, hrest⟩ : x = i ∧ rest = (List.range eso.size).drop (i + 1) := by
        rw [List.drop_eq_getElem_cons (by simpa using hlt)] at hr
        injection hr with h1 h2
        exact ⟨by simpa using h1, h2⟩
      refine wpAny_bind (wpAny_dictEntries hoo' hdo' ?_)
      rw [Array.getElem?_eq_getElem hlt]
      obtain ⟨kv, hkv⟩ : ∃ kv, more[x]? = some kv := ⟨more[x]'(by rw [hlen]; exact hlt), List.getElem?_eq_getElem _⟩
      obtain ⟨k, v⟩ := kv
      obtain ⟨hkey, hval⟩ := hpo.get? (e := eso[x]) (by simp [hlt]) hkv
      obtain ⟨k', hkey', hhash⟩ := hko eso[x] (Array.getElem_mem hlt)
      obtain rfl : k' = k := knd.inj _ _ _ hkey' hkey
      have hmx : (merged kvs (more.take x)).length ≤ sizeLine := by
        have e1 := merged_length_le kvs (more.take x)
        have e2 : (more.take x).length ≤ more.length := by rw [List.length_take]; omega
        omega
      show wpAny _ _ (holding [eso[x].key, eso[x].val] (dictPut d eso[x].hash eso[x].key eso[x].val) >>= _) _ _ _
      rw [hhash, hval]
      refine wpAny_bind (wpAny_holding (dictPut_pairs hkey hd' hmx fun h'' hd'' hs'' => ?_))
      have hoo'' : h''.get? o = some oo := (hs''.2 o (Ne.symm hdo)).trans hoo'
      refine wpAny_bind (wpAny_dictEpoch hoo'' hdo' ?_)
      rw [if_neg (by simp)]
      exact wpAny_pure ⟨h'', x + 1, rfl, hrest, hlt, by rw [merged_take_succ kvs more x (k', v) hkv]; exact hd'', hoo'', hs'.trans hs''⟩
    · rintro b s' ⟨h', i, rfl, hr, hi, hd', hoo', hs'⟩
      have hin : i = eso.size := by
        rcases Nat.lt_or_ge i eso.size with h | h
        · rw [List.drop_eq_getElem_cons (by simpa using h)] at hr; exact nomatch hr
        · exact Nat.le_antisymm hi h
      refine wpAny_pure (hQ h' ?_ hs')
      rw [hin, ← hlen, List.take_length] at hd'; exact hd'
  unfold mergeMapping
  refine wpAny_bind (wpAny_isInstance ho.typeIs isSubtype_dict_dict ?_)
  rw [if_pos rfl]
  refine wpAny_bind (wpAny_specialOf ho.typeIs F.slot_dict_iter.lookup ?_)
  refine wpAny_bind (wpAny_pure ?_)
  rw [show (some (Value.builtin "dict.__iter__") == some (Value.builtin "dict.__iter__")) = true from by decide +kernel]
  dsimp only
  rw [hoS]
  simp only [Bool.false_eq_true, if_false]
  refine wpAny_bind (wpAny_dictEntries hod hdd ?_)
  split
  · refine wpAny_bind (wpAny_dictEntries hoo hdo' ?_)
    refine wpAny_bind (wpAny_of_eq (a := PUnit.unit) ?_ (inner Q hQ))
    rw [← Array.forIn_toList]
    refine forIn_yield_id _ fun e he c => ?_
    obtain ⟨k, hkey, _⟩ := hko e (Array.mem_toList_iff.mp he)
    have hv := knd.byValue k _ hkey
    cases hk : e.key <;> first
      | rfl
      | (rw [hk] at hv; exact absurd hv Bool.false_ne_true)
  · exact inner Q hQ
end
end DL
end
section
set_option maxRecDepth 100000
namespace DL
open PySem PySem.Spec PyProof.Rows L2
/-- {**a, **b}: the new dict stands while the parts are made -/
def tDm (ta tb : TE) : TE := fun σ H Q => ∀ p, H p = none → ta σ (upd H p (.dK [])) fun x H1 => ∃ a ks, x = .ref a ∧ a ≠ p ∧ Rd H1 a (.dK ks) ∧ H1 p = some (.dK []) ∧
  tb σ (upd H1 p (.dK (mergeK [] ks))) fun y H2 => ∃ b ls, y = .ref b ∧ b ≠ p ∧ Rd H2 b (.dK ls) ∧ H2 p = some (.dK (mergeK [] ks)) ∧ ks.length + ls.length ≤ sizeLine ∧ Q (.ref p) (upd H2 p (.dK (mergeK (mergeK [] ks) ls)))
section
variable {X : Cx} {a b : Expr} {ta tb : TE} {pos : Pos}
theorem merge_inv {pins : List (Addr × Obj)} {σ : L2.St} {H : Hp} {s : Shared} {p a : Addr} {ks ls : List (Key × V)} {A : Around} {E : Value → Shared → Prop} {Q : Unit → Shared → Prop} (I : Inv X pins σ H s) (hp : H p = some (.dK ks)) (ha : Rd H a (.dK ls)) (hne : a ≠ p)
    (hz : ks.length + ls.length ≤ sizeLine) (h : ∀ s', Inv X pins σ (upd H p (.dK (mergeK ks ls))) s' → Q () s') : wpAny (model X.prog X.w) A (mergeMapping p (.ref a) false) Q E s := by
  obtain ⟨z1, hd1, vs1, r1, dd1⟩ := dk_of I.hok hp
  obtain ⟨z2, hd2, vs2, r2, dd2⟩ := dk_rd I.hok ha
  refine wpAny_mergeMapping (knd := mixKind X.prog X.w) (Ne.symm hne) hd2 dd1 dd2 (by rw [← Paired.length r1, ← Paired.length r2]; exact hz) fun h' dd' hs => h _ ?_
  have he : ∃ q, h'.get? p = some q := let ⟨q, _, _, hq, _⟩ := dd'; ⟨q, hq⟩
  exact d_write (t' := s.toks) I (by rw [hp]; exact True.intro) hs he (dk_new (Nat.le_trans (length_mergeK ls ks) hz) hd1 (r2.merge r1) dd')
theorem pe_dmerge (ha : PE X a ta) (hb : PE X b tb) : PE X (.Dict [none, none] [a, b] pos) (tDm ta tb) := by
  refine ⟨fun pins s σ H Q I h => ?_⟩
  rw [arm_eval_Dict]
  refine wpAny_bind (wpAny_standAt ?_)
  show wpAny _ _ (dictDisplay [(none, do let x ← eval a X.env; standAt pos; pure x), (none, do let x ← eval b X.env; standAt pos; pure x)]) _ _ _
  unfold dictDisplay
  simp only [List.forIn_cons, List.forIn_nil, List.isEmpty_nil, if_true]
  have hn := I.hok.fresh (Nat.le_refl s.heap.objs.size)
  have I1 := I.laid (a := s.heap.objs.size) (o := .dK []) (h' := s.heap.push { cls := .type "dict", data := .dict #[] }) (t' := s.toks) (fun _ _ q => Heap.get?_push_of_some _ q) (Nat.le_refl _) (dk_empty s.heap I.big)
  have hp := h _ hn
  refine wpAny_bind (wpAny_bind (wpAny_bind (wpAny_pure ?_)))
  dsimp only
  refine wpAny_bind (wpAny_alloc ?_)
  generalize s.heap.objs.size = p at *
  refine wpAny_bind (wpAny_holding (wpAny_bind (thn (ha.run pins _ σ _ _ I1 hp) fun u s1 ⟨x, H1, I2, rx, ca, ks, ex, hne, rd, h1, q1⟩ => wpAny_bind (wpAny_standAt (wpAny_pure ?_)))))
  subst ex
  obtain rfl : u = Value.ref ca := rx
  have z1 := (dk_rd I2.hok rd).1
  refine wpAny_bind (wpAny_onRaise (wpAny_tryCatch (wpAny_onRaise (wpAny_holding (merge_inv I2 h1 rd hne (by simpa using z1) fun s2 I3 => wpAny_pure ?_)))))
  dsimp only
  refine wpAny_bind (wpAny_bind (wpAny_pure ?_))
  dsimp only
  refine wpAny_bind (wpAny_pure (wpAny_bind (wpAny_holding (wpAny_bind (thn (hb.run pins _ σ _ _ I3 q1) fun u s4 ⟨y, H4, I4, ry, cb, ls, ey, hne2, rd2, h4, hz, q4⟩ => wpAny_bind (wpAny_standAt (wpAny_pure ?_)))))))
  subst ey
  obtain rfl : u = Value.ref cb := ry
  refine wpAny_bind (wpAny_onRaise (wpAny_tryCatch (wpAny_onRaise (wpAny_holding (merge_inv I4 h4 rd2 hne2 ?_ fun s5 I5 => wpAny_pure ?_)))))
  · have := length_mergeK ks []
    simp only [List.length_nil] at this
    omega
  dsimp only
  refine wpAny_pure ?_
  simp only [List.isEmpty_nil, if_true]
  exact wpAny_bind (wpAny_pure (wpAny_pure ⟨.ref p, _, I5, rfl, q4⟩))
end
end DL
end
section
set_option maxRecDepth 100000
/-! More rules over data: dicts, what is changed in lists, texts, pairs. -/
namespace DL
open PySem PySem.Spec PyProof.Rows L2

/-! ### dicts -/
def keyD : D → Option Key
  | .int i => some (.inl i)
  | .str x => some (.inr x)
  | _ => none
def dOf : Key → D
  | .inl i => .int i
  | .inr x => .str x
def valD (kvs : List (Key × D)) (k : Key) : Option D := (kvs.find? fun kv => decide (kv.1 = k)).map (·.2)
def putKD (kvs : List (Key × D)) (k : Key) (v : D) : List (Key × D) :=
  if (kvs.any fun kv => decide (kv.1 = k)) = true then kvs.map (fun kv => if kv.1 = k then (kv.1, v) else kv) else kvs ++ [(k, v)]
def mergeKD (kvs more : List (Key × D)) : List (Key × D) := more.foldl (fun acc kv => putKD acc kv.1 kv.2) kvs
def dictOf (d : D) (G : GD) : Option (List (Key × D)) := match d with
  | .dict kvs => some kvs
  | .ref a => (match G a with
    | some (.dict kvs) => some kvs
    | _ => none)
  | _ => none
section
variable {K : PySem.W.Frag} {F H : Hp} {G : GD}
theorem keyD_rep {d : D} {v : V} {k : Key} (r : Rep K F d v) (h : keyD d = some k) : v = kV k := by
  cases r <;> first
    | (cases h; rfl)
    | cases h
theorem dOf_rep {k : Key} : Rep K F (dOf k) (kV k) := by
  cases k
  · exact .int _
  · exact .str _
theorem RepK.val {k : Key} {d : D} : ∀ {kvs : List (Key × D)} {vs : List (Key × V)}, RepK K F kvs vs → valD kvs k = some d → ∃ v, valV vs k = some v ∧ Rep K F d v
  | _, _, .nil, e => by cases e
  | _, _, .cons (k := j) (d := x) (v := u) (ds := r) (vs := rs) h t, e => by
    by_cases q : j = k
    · have e1 : valD ((j, x) :: r) k = some x := by simp [valD, List.find?_cons, q]
      rw [e1] at e; cases e
      exact ⟨u, valV_pos q, h⟩
    · have e1 : valD ((j, x) :: r) k = valD r k := by simp [valD, List.find?_cons, q]
      rw [e1] at e
      obtain ⟨v, h1, h2⟩ := RepK.val t e
      exact ⟨v, by rw [valV_neg (p := (j, u)) q]; exact h1, h2⟩
theorem RepK.has {k : Key} : ∀ {kvs : List (Key × D)} {vs : List (Key × V)}, RepK K F kvs vs → (valV vs k).isSome = (valD kvs k).isSome
  | _, _, .nil => rfl
  | _, _, .cons (k := j) (d := x) (v := u) (ds := r) (vs := rs) h t => by
    by_cases q : j = k
    · have e1 : valD ((j, x) :: r) k = some x := by simp [valD, List.find?_cons, q]
      rw [e1, valV_pos (p := (j, u)) q]; rfl
    · have e1 : valD ((j, x) :: r) k = valD r k := by simp [valD, List.find?_cons, q]
      rw [e1, valV_neg (p := (j, u)) q]; exact RepK.has t
theorem RepK.any {k : Key} : ∀ {kvs : List (Key × D)} {vs : List (Key × V)}, RepK K F kvs vs → (vs.any fun kv => decide (kv.1 = k)) = (kvs.any fun kv => decide (kv.1 = k))
  | _, _, .nil => rfl
  | _, _, .cons h t => by rw [List.any_cons, List.any_cons, RepK.any t]
theorem RepK.append : ∀ {xs ys : List (Key × D)} {us ws : List (Key × V)}, RepK K F xs us → RepK K F ys ws → RepK K F (xs ++ ys) (us ++ ws)
  | _, _, _, _, .nil, s => s
  | _, _, _, _, .cons r t, s => .cons r (RepK.append t s)
theorem RepK.put {k : Key} {d : D} {v : V} {kvs : List (Key × D)} {vs : List (Key × V)} (r : RepK K F kvs vs) (h : Rep K F d v) : RepK K F (putKD kvs k d) (putK vs k v) := by
  unfold putKD putK
  rw [r.any]
  split
  · rename_i hany
    clear hany
    induction kvs generalizing vs with
    | nil => cases r; exact .nil
    | cons p kvs ih =>
      cases r with
      | @cons j x u ds rs h1 t =>
        rw [List.map_cons, List.map_cons]
        by_cases q : j = k
        · rw [if_pos (show (j, x).1 = k from q), if_pos (show (j, u).1 = k from q)]; exact .cons h (ih t)
        · rw [if_neg (show ¬ (j, x).1 = k from q), if_neg (show ¬ (j, u).1 = k from q)]; exact .cons h1 (ih t)
  · exact r.append (.cons h .nil)
theorem RepK.merge {more : List (Key × D)} {ms : List (Key × V)} (m : RepK K F more ms) : ∀ {kvs : List (Key × D)} {vs : List (Key × V)}, RepK K F kvs vs → RepK K F (mergeKD kvs more) (mergeK vs ms) := by
  induction more generalizing ms with
  | nil => intro kvs vs r; cases m; exact r
  | cons p more ih =>
    intro kvs vs r
    cases m with
    | cons h t => exact ih t (r.put h)
theorem RepK.get : ∀ {kvs : List (Key × D)} {vs : List (Key × V)} {i : Nat} {k : Key} {v : V}, RepK K F kvs vs → vs[i]? = some (k, v) → ∃ d, kvs[i]? = some (k, d) ∧ Rep K F d v
  | _, _, _, _, _, .nil, e => by simp at e
  | _, _, 0, _, _, .cons r _, e => by simp at e; obtain ⟨rfl, rfl⟩ := e; exact ⟨_, rfl, r⟩
  | _, _, i + 1, k, v, .cons _ t, e => by
    obtain ⟨d, h1, h2⟩ := RepK.get (i := i) (k := k) (v := v) t (by simpa using e)
    exact ⟨d, by simpa using h1, h2⟩
theorem rep_dict {d : D} {v : V} {kvs : List (Key × D)} (A : AbsH K F H G) (r : Rep K F d v) (h : dictOf d G = some kvs) : ∃ a vs, v = .ref a ∧ Rd H a (.dK vs) ∧ RepK K F kvs vs ∧ (F a = none → G a = none → False) := by
  cases r with
  | dict h1 rs => cases h; exact ⟨_, _, rfl, A.dk h1, rs, fun z _ => by rw [h1] at z; cases z⟩
  | ref a =>
    have h : (match G a with
      | some (.dict kvs) => some kvs
      | _ => none) = some kvs := h
    cases e : G a with
    | none => rw [e] at h; cases h
    | some o =>
      rw [e] at h
      cases o with
      | dict ys =>
        cases h
        obtain ⟨_, vs, e2, rs⟩ := A.obj a _ e
        exact ⟨_, _, rfl, .inl e2, rs, fun _ z => by rw [e] at z; cases z⟩
      | _ => cases h
  | _ => cases h
end
/-- d[y] -/
def dDGet (td ty : TDE) : TDE := fun s G Q E => td s G (fun d G1 => ty s G1 (fun y G2 => ∃ kvs k v, dictOf d G2 = some kvs ∧ keyD y = some k ∧ valD kvs k = some v ∧ Q v G2) E) E
/-- y in d -/
def dDIn (neg : Bool) (ty td : TDE) : TDE := fun s G Q E => ty s G (fun y G1 => td s G1 (fun d G2 => ∃ kvs k, dictOf d G2 = some kvs ∧ keyD y = some k ∧ Q (.bl (if neg = true then !(valD kvs k).isSome else (valD kvs k).isSome)) G2) E) E
/-- {k: v}, not changed behind -/
def dD1 (tk tv : TDE) : TDE := fun s G Q E => tk s G (fun y G1 => tv s G1 (fun v G2 => ∃ k, keyD y = some k ∧ Q (.dict [(k, v)]) G2) E) E
/-- {**a, **b} -/
def dMerge (ta tb : TDE) : TDE := fun s G Q E => ta s G (fun d G1 => ∃ ks, d = .dict ks ∧ tb s G1 (fun e G2 => ∃ ls, dictOf e G2 = some ls ∧ ks.length + ls.length ≤ sizeLine ∧ Q (.dict (mergeKD (mergeKD [] ks) ls)) G2) E) E
section
variable {X : Cx} {W : WX} {o i a b k : Expr} {td ty ta tb tk tv : TDE} {pos : Pos}
theorem de_dget (hu : X.A.units + 1 < cLine) (ho : DE X W o td) (hi : DE X W i ty) (hs : NoSl i := by exact fun _ _ => rfl) : DE X W (.Subscript o i pos) (dDGet td ty) := PE.imp (pe_dget hu ho hi hs) fun σ H Q q => by
  obtain ⟨F, s, G, QD, ED, A, S, t, l⟩ := q
  refine ⟨F, s, G, _, ED, A, S, t, ⟨fun F1 H1 d1 G1 x st1 A1 r1 q1 => ?_, l.ex⟩⟩
  refine ⟨F1, s, G1, _, ED, A1, S.mono st1.le, q1, ⟨fun F2 H2 d2 G2 y st2 A2 r2 q2 => ?_, (l.mono st1).ex⟩⟩
  obtain ⟨kvs, k, v, hd, hk, hv, q2⟩ := q2
  obtain ⟨a, vs, rfl, rd, rs, _⟩ := rep_dict A2 (r1.mono st2.le) hd
  obtain ⟨u, hu, ru⟩ := rs.val hv
  exact ⟨a, u, rfl, .inl ⟨vs, k, rd, keyD_rep r2 hk, hu.symm⟩, l.ok F2 H2 v G2 u (st1.trans st2) A2 ru q2⟩
theorem din_imp {σ : L2.St} {H : Hp} {Q : VK} (q : liftE X.K W (dDIn false ty td) σ H Q) : tDIn (liftE X.K W ty) (liftE X.K W td) σ H Q := by
  obtain ⟨F, s, G, QD, ED, A, S, t, l⟩ := q
  refine ⟨F, s, G, _, ED, A, S, t, ⟨fun F1 H1 d1 G1 x st1 A1 r1 q1 => ?_, l.ex⟩⟩
  refine ⟨F1, s, G1, _, ED, A1, S.mono st1.le, q1, ⟨fun F2 H2 d2 G2 y st2 A2 r2 q2 => ?_, (l.mono st1).ex⟩⟩
  obtain ⟨kvs, k, hd, hk, q2⟩ := q2
  obtain ⟨a, vs, rfl, rd, rs, _⟩ := rep_dict A2 r2 hd
  refine ⟨a, valV vs k, rfl, .inl ⟨vs, k, rd, keyD_rep (r1.mono st2.le) hk, rfl⟩, ?_⟩
  rw [rs.has]
  exact l.ok F2 H2 _ G2 _ (st1.trans st2) A2 (.bl _) (by simpa using q2)
theorem dnin_imp {σ : L2.St} {H : Hp} {Q : VK} (q : liftE X.K W (dDIn true ty td) σ H Q) : tDNotIn (liftE X.K W ty) (liftE X.K W td) σ H Q := by
  obtain ⟨F, s, G, QD, ED, A, S, t, l⟩ := q
  refine ⟨F, s, G, _, ED, A, S, t, ⟨fun F1 H1 d1 G1 x st1 A1 r1 q1 => ?_, l.ex⟩⟩
  refine ⟨F1, s, G1, _, ED, A1, S.mono st1.le, q1, ⟨fun F2 H2 d2 G2 y st2 A2 r2 q2 => ?_, (l.mono st1).ex⟩⟩
  obtain ⟨kvs, k, hd, hk, q2⟩ := q2
  obtain ⟨a, vs, rfl, rd, rs, _⟩ := rep_dict A2 r2 hd
  refine ⟨a, valV vs k, rfl, .inl ⟨vs, k, rd, keyD_rep (r1.mono st2.le) hk, rfl⟩, ?_⟩
  rw [rs.has]
  exact l.ok F2 H2 _ G2 _ (st1.trans st2) A2 (.bl _) (by simpa using q2)
theorem de_din (hu : X.A.units + 1 < cLine) (hi : DE X W i ty) (ho : DE X W o td) (hm : behindInMarks .In o = false := by rfl) : DE X W (.Compare i [.In] [o] pos) (dDIn false ty td) := PE.imp (pe_cmp (pc_din hu hi ho) hm) fun _ _ _ q => din_imp q
theorem de_dnotin (hu : X.A.units + 1 < cLine) (hi : DE X W i ty) (ho : DE X W o td) (hm : behindInMarks .NotIn o = false := by rfl) : DE X W (.Compare i [.NotIn] [o] pos) (dDIn true ty td) := PE.imp (pe_cmp (pc_dnotin hu hi ho) hm) fun _ _ _ q => dnin_imp q
theorem dt_din (hu : X.A.units + 1 < cLine) (hi : DE X W i ty) (ho : DE X W o td) (hm : behindInMarks .In o = false := by rfl) : DT X W (.Compare i [.In] [o] pos) (dTest (dDIn false ty td)) := PT.imp (pt_cmp (pc_din hu hi ho) hm) fun _ _ _ q => test_of (fun _ _ _ z => din_imp z) q
theorem dt_dnotin (hu : X.A.units + 1 < cLine) (hi : DE X W i ty) (ho : DE X W o td) (hm : behindInMarks .NotIn o = false := by rfl) : DT X W (.Compare i [.NotIn] [o] pos) (dTest (dDIn true ty td)) := PT.imp (pt_cmp (pc_dnotin hu hi ho) hm) fun _ _ _ q => test_of (fun _ _ _ z => dnin_imp z) q
theorem de_dict1 (hk : DE X W k tk) (hv : DE X W a tv) : DE X W (.Dict [some k] [a] pos) (dD1 tk tv) := PE.imp (pe_disp (pps_cons hk hv pps_nil) rfl rfl (by simp) (by simp)) fun σ H Q q => by
  obtain ⟨F, s, G, QD, ED, A, S, t, l⟩ := q
  intro p hp
  have st0 : Stp F H G F (upd H p (.dK [])) G := stp_beside hp
  refine ⟨F, s, G, _, ED, A.beside hp, S, t, ⟨fun F1 H1 d1 G1 x st1 A1 r1 q1 => ?_, (l.mono st0).ex⟩⟩
  have nt : ∀ ps, HO.dK ([] : List (Key × V)) ≠ .tbl ps := fun _ z => by cases z
  obtain ⟨p1, f1, g1⟩ := st1.hid p _ upd_same nt (A.fnone hp) (A.gnone hp)
  refine ⟨F1, s, G1, _, ED, A1, S.mono st1.le, q1, ⟨fun F2 H2 d2 G2 y st2 A2 r2 q2 => ?_, (l.mono (st0.trans st1)).ex⟩⟩
  obtain ⟨p2, f2, g2⟩ := st2.hid p _ p1 nt f1 g1
  obtain ⟨k, hk, q2⟩ := q2
  refine ⟨p2, [(k, y)], ?_, by simp, ?_⟩
  · show [(x, y)] = [(kV k, y)]
    rw [keyD_rep r1 hk]
  · have st := ((st0.trans st1).trans st2)
    have e : mergeK [] [(k, y)] = [(k, y)] := rfl
    rw [e]
    have A3 : AbsH X.K F2 (upd H2 p (.dK [(k, y)])) G2 := A2.hidW f2 g2 p2 trivial
    have st3 : Stp F H G F2 (upd H2 p (.dK [(k, y)])) G2 := st.hidW hp
    obtain ⟨st4, A4⟩ := hid_frz st3 A3 hp upd_same trivial f2 g2
    exact l.ok _ _ _ G2 _ st4 A4 (.dict upd_same (.cons (r2.mono (Le.upd f2)) .nil)) q2
theorem de_dmerge (ha : DE X W a ta) (hb : DE X W b tb) : DE X W (.Dict [none, none] [a, b] pos) (dMerge ta tb) := PE.imp (pe_dmerge ha hb) fun σ H Q q => by
  obtain ⟨F, s, G, QD, ED, A, S, t, l⟩ := q
  intro p hp
  have st0 : Stp F H G F (upd H p (.dK [])) G := stp_beside hp
  refine ⟨F, s, G, _, ED, A.beside hp, S, t, ⟨fun F1 H1 d1 G1 x st1 A1 r1 q1 => ?_, (l.mono st0).ex⟩⟩
  have nt : ∀ ps, HO.dK ([] : List (Key × V)) ≠ .tbl ps := fun _ z => by cases z
  obtain ⟨p1, f1, g1⟩ := st1.hid p _ upd_same nt (A.fnone hp) (A.gnone hp)
  obtain ⟨ks, rfl, q1⟩ := q1
  · obtain ⟨a, vs, rfl, rd, rs, na⟩ := rep_dict (kvs := ks) A1 r1 rfl
    have hne : a ≠ p := fun z => by subst z; exact na f1 g1
    have r0 : RepK X.K F1 (mergeKD [] ks) (mergeK [] vs) := rs.merge .nil
    have st01 : Stp F H G F1 (upd H1 p (.dK (mergeK [] vs))) G1 := (st0.trans st1).hidW hp
    refine ⟨a, vs, rfl, hne, rd, p1, F1, s, G1, _, ED, A1.hidW f1 g1 p1 trivial, S.mono st1.le, q1, ⟨fun F2 H2 d2 G2 y st2 A2 r2 q2 => ?_, (l.mono st01).ex⟩⟩
    have nt2 : ∀ ps, HO.dK (mergeK [] vs) ≠ .tbl ps := fun _ z => by cases z
    obtain ⟨p2, f2, g2⟩ := st2.hid p _ upd_same nt2 f1 g1
    obtain ⟨ls, hl, hz, q2⟩ := q2
    obtain ⟨b, ws, rfl, rd2, rs2, nb⟩ := rep_dict A2 r2 hl
    refine ⟨b, ws, rfl, fun z => by subst z; exact nb f2 g2, rd2, p2, by rw [← rs.length, ← rs2.length]; exact hz, ?_⟩
    have st3 : Stp F H G F2 (upd H2 p (.dK (mergeK (mergeK [] vs) ws))) G2 := (st01.trans st2).hidW hp
    obtain ⟨st4, A4⟩ := hid_frz st3 (A2.hidW f2 g2 p2 trivial) hp upd_same trivial f2 g2
    exact l.ok _ _ _ G2 _ st4 A4 (.dict upd_same ((rs2.merge (r0.mono st2.le)).mono (Le.upd f2))) q2
end
end DL
end
section
set_option maxRecDepth 100000
/-! What is walked: dicts, pairs, places; dict comprehensions. -/
namespace DL
open PySem PySem.Spec PyProof.Rows L2

/-! ### a dict is locked where it is walked -/
/-- H with the dict at d locked -/
def LockD (H : Hp) (d : Addr) (kvs : List (Key × V)) (od : Obj) (H2 : Hp) : Prop := H2 d = some (.frz od (.dK kvs)) ∧ (H2 = H ∨ (H d = some (.dK kvs) ∧ H2 = upd H d (.frz od (.dK kvs))))
def tLockAt (t : TE) : TE := fun σ H Q => t σ H fun x H1 => ∃ d kvs, x = .ref d ∧ Rd H1 d (.dK kvs) ∧ ∀ od H2, LockD H1 d kvs od H2 → Q x H2
theorem pe_lockAt {X : Cx} {e : Expr} {t : TE} (h : PE X e t) : PE X e (tLockAt t) := by
  refine ⟨fun pins s σ H Q I hw => ?_⟩
  refine thn (h.run pins s σ H _ I hw) fun v s1 ⟨x, H1, I1, r, d, kvs, ex, rd, q⟩ => ?_
  rcases rd with rd | ⟨od, rd⟩
  · obtain ⟨od, I2⟩ := I1.lock rd trivial
    exact ⟨x, _, I2, r, q od _ ⟨upd_same, .inr ⟨rd, rfl⟩⟩⟩
  · exact ⟨x, H1, I1, r, q od H1 ⟨rd, .inl rfl⟩⟩
section
variable {K : PySem.W.Frag} {F H H2 : Hp} {G : GD} {d : Addr} {kvs : List (Key × V)} {od : Obj}
theorem lock_abs (A : AbsH K F H G) (hf : F d = some (.dK kvs)) (l : LockD H d kvs od H2) : AbsH K F H2 G ∧ Stp F H G F H2 G := by
  obtain ⟨h2, rfl | ⟨hd, rfl⟩⟩ := l
  · exact ⟨A, .refl _ _ _⟩
  · refine ⟨⟨fun a o e => ?_, fun a o e => ?_⟩, ⟨.refl F, fun a ob u e => ?_, fun b o e _ f g => ?_⟩⟩
    · by_cases q : a = d
      · subst q
        rw [hf] at e; cases e
        exact ⟨trivial, .inr ⟨trivial, od, upd_same⟩⟩
      · rw [upd_ne q]; exact A.sub a o e
    · have q : a ≠ d := fun z => by subst z; rw [(A.obj a o e).1] at hf; cases hf
      obtain ⟨n, r⟩ := A.obj a o e
      exact ⟨n, r.at (.inr ⟨_, hd, trivial⟩) q⟩
    · have q : a ≠ d := fun z => by subst z; rw [hd] at e; cases e
      rw [upd_ne q]; exact e
    · have q : b ≠ d := fun z => by subst z; rw [f] at hf; cases hf
      rw [upd_ne q]; exact ⟨e, f, g⟩
end
/-- the keys of a dict; its pairs -/
def iDict (t : TDE) : TDI := fun s G Q E => t s G (fun d G1 => ∃ kvs, d = .dict kvs ∧ Q (kvs.map fun kv => dOf kv.1) G1) E
def iItemsD (t : TDE) : TDI := fun s G Q E => t s G (fun d G1 => ∃ kvs, d = .dict kvs ∧ Q (kvs.map fun kv => .tup [dOf kv.1, kv.2]) G1) E
section
variable {X : Cx} {W : WX} {tg e : Expr} {t : TDE}
theorem di_dict (h : DE X W e t) : DI X W tg e (iDict t) := PI.imp (pi_keys (pe_lockAt h)) fun σ H R q => by
  obtain ⟨F, s, G, QD, ED, A, S, t, l⟩ := q
  refine ⟨F, s, G, _, ED, A, S, t, ⟨fun F1 H1 d1 G1 x st1 A1 r1 q1 => ?_, l.ex⟩⟩
  obtain ⟨kvs, rfl, q1⟩ := q1
  cases r1 with
  | dict h1 rs =>
    refine ⟨_, _, rfl, A1.dk h1, fun od H2 lk => ?_⟩
    obtain ⟨A2, st2⟩ := lock_abs A1 h1 lk
    refine ⟨_, od, rfl, .inl ⟨_, lk.1, ?_⟩⟩
    refine l.ok F1 H2 _ G1 _ (st1.trans st2) A2 ⟨fun i d F H G e st A => ?_, fun F H G st A => ⟨st.fz _ _ _ lk.1, by rw [List.length_map, rs.length]; exact Nat.le_refl _⟩⟩ q1
    rw [List.getElem?_map] at e
    cases e2 : kvs[i]? with
    | none => rw [e2] at e; cases e
    | some kv =>
      rw [e2] at e
      cases e
      refine ⟨⟨st.fz _ _ _ lk.1, by rw [← rs.length]; exact (List.getElem?_eq_some_iff.mp e2).1⟩, fun x H' y => ?_⟩
      obtain ⟨eh, k, v, ek, ex⟩ := y
      subst eh ex
      obtain ⟨d, e3, _⟩ := rs.get ek
      rw [e2] at e3
      cases e3
      exact ⟨F, .refl _ _ _, A, dOf_rep⟩
theorem di_items {elts : List Expr} {kk : Nat} {tpos apos cpos : Pos} (h : DE X W e t) (hbase : attributeBase e "items" X.env (eval e X.env) = eval e X.env := by rfl) (hline : (apos.endLine == cpos.line) = true := by rfl) :
    DI X W (.Tuple elts kk tpos) (.Call (.Attribute e "items" apos) [] [] cpos) (iItemsD t) := PI.imp (pi_items (pe_lockAt h) hbase hline) fun σ H R q => by
  obtain ⟨F, s, G, QD, ED, A, S, t, l⟩ := q
  refine ⟨F, s, G, _, ED, A, S, t, ⟨fun F1 H1 d1 G1 x st1 A1 r1 q1 => ?_, l.ex⟩⟩
  obtain ⟨kvs, rfl, q1⟩ := q1
  cases r1 with
  | dict h1 rs =>
    refine ⟨_, _, rfl, A1.dk h1, fun od H2 lk => ?_⟩
    obtain ⟨A2, st2⟩ := lock_abs A1 h1 lk
    refine ⟨_, od, _, rfl, lk.1, ?_⟩
    refine l.ok F1 H2 _ G1 _ (st1.trans st2) A2 ⟨fun i d F H G e st A => ?_, fun F H G st A => ⟨st.fz _ _ _ lk.1, by rw [List.length_map, rs.length]; exact Nat.le_refl _⟩⟩ q1
    rw [List.getElem?_map] at e
    cases e2 : kvs[i]? with
    | none => rw [e2] at e; cases e
    | some kv =>
      rw [e2] at e
      cases e
      refine ⟨⟨st.fz _ _ _ lk.1, by rw [← rs.length]; exact (List.getElem?_eq_some_iff.mp e2).1⟩, fun x H' y => ?_⟩
      obtain ⟨T, k, v, ek, ex, hT, eh⟩ := y
      subst eh ex
      obtain ⟨d, e3, rd⟩ := rs.get ek
      rw [e2] at e3
      cases e3
      have l1 := Le.upd (o := .tup [kV k, v]) (A.fnone hT)
      exact ⟨_, A.stpF hT, A.laidF hT trivial, .tup (.inl (.inl upd_same)) (.cons dOf_rep (.cons ((rd.mono st.le).mono l1) .nil))⟩
end

/-! ### zip of two tuples, of two lists -/
def pairsD : List D → List D → List D
  | x :: xs, y :: ys => .tup [x, y] :: pairsD xs ys
  | _, _ => []
theorem pairsD_len : ∀ (xs ys : List D), (pairsD xs ys).length = min xs.length ys.length
  | [], _ => by simp [pairsD]
  | _ :: _, [] => by simp [pairsD]
  | x :: xs, y :: ys => by simp [pairsD, pairsD_len xs ys]
theorem pairsD_at : ∀ (xs ys : List D) (i : Nat) (d : D), (pairsD xs ys)[i]? = some d → ∃ x y, xs[i]? = some x ∧ ys[i]? = some y ∧ d = .tup [x, y]
  | [], _, _, _, h => by simp [pairsD] at h
  | _ :: _, [], _, _, h => by simp [pairsD] at h
  | x :: xs, y :: ys, 0, d, h => ⟨x, y, rfl, rfl, by simpa [pairsD] using h.symm⟩
  | x :: xs, y :: ys, i + 1, d, h => by
    obtain ⟨u, v, h1, h2, h3⟩ := pairsD_at xs ys i d (by simpa [pairsD] using h)
    exact ⟨u, v, by simpa using h1, by simpa using h2, h3⟩
end DL
end
section
set_option maxRecDepth 100000
set_option maxHeartbeats 1000000
/-! zip of a tuple and a list; enumerate of a tuple. -/
namespace DL
open PySem PySem.Spec PyProof.Rows L2
section
variable {prog : Program} {w : World} {A : Around} {E : Value → Shared → Prop} {s : Shared}
abbrev zm1 (h : Heap) (a : Addr) : Heap := h.push { cls := .type "tuple_iterator", data := .fields #[.ref a, .int 0 0] }
abbrev zm2 (h : Heap) (a b : Addr) : Heap := (zm1 h a).push { cls := .type "list_iterator", data := .fields #[.ref b, .int 0 0] }
abbrev zm3 (h : Heap) (a b : Addr) : Heap := (zm2 h a b).push { cls := .type "tuple", data := .seq #[.ref h.objs.size, .ref (zm1 h a).objs.size] }
abbrev zm4 (h : Heap) (a b : Addr) : Heap := (zm3 h a b).push { cls := .type "tuple", data := .seq #[.none, .none] }
abbrev zm5 (h : Heap) (a b : Addr) : Heap := (zm4 h a b).push { cls := .type "zip", data := .fields #[.none, .bool false, .bool false, .ref (zm2 h a b).objs.size, .ref (zm3 h a b).objs.size] }
theorem meets_zipM (a b : Addr) (xs ys : Array Value) : Meets (Builtin.«zip.__new__» ⟨[.type "zip", .ref a, .ref b], []⟩) (fun _ R s => s.heap.IsTuple a xs ∧ s.heap.IsList b ys ∧
      R (.ok (.ret (.ref (zm4 s.heap a b).objs.size))) { s with heap := zm5 s.heap a b }) :=
  .of_wp fun prog w A R s h => by
    obtain ⟨hp, g, d, tk, os⟩ := s; obtain ⟨ha, hb, h⟩ := h
    have hsub := sub_zip
    have L1 : Heap.IsTuple (Shared.heap ⟨hp, g, d, tk, os⟩) a xs := ha
    have L2 : Heap.IsList (Shared.heap ⟨hp.push { cls := .type "tuple_iterator", data := .fields #[.ref a, .int 0 0] }, g, d, tk, os⟩) b ys := Heap.IsList.push hb _
    wp_walk using wpAny_pyIter_tuple L1, wpAny_pyIter_list L2
    exact ⟨_, rfl, h⟩
theorem call_zipM {a b : Addr} {xs ys : Array Value} {Q : Value → Shared → Prop} (ha : s.heap.IsTuple a xs) (hb : s.heap.IsList b ys)
    (h : ∀ h', IsZip h' (s.heap.objs.size + 4) (s.heap.objs.size + 2) (s.heap.objs.size + 3) .none → IsPair h' (s.heap.objs.size + 2) (.ref s.heap.objs.size) (.ref (s.heap.objs.size + 1)) →
      IsPair h' (s.heap.objs.size + 3) .none .none → h'.IsTupleIter s.heap.objs.size a 0 → h'.IsListIter (s.heap.objs.size + 1) b 0 → h'.objs.size = s.heap.objs.size + 5 →
      (∀ c o, s.heap.get? c = some o → h'.get? c = some o) → Q (.ref (s.heap.objs.size + 4)) { s with heap := h' }) : wpAny (model prog w) A (call (.type "zip") [.ref a, .ref b]) Q E s := by
  refine callType_new F.called_zip (by decide) (F.typeCall_zip_2 _ _) (F.newCall_zip_2 _ _) (fun obj => F.args_object_init_3 obj _ _) F.entry_zip_new (meets_zipM a b xs ys) ⟨ha, hb, ?_⟩
  have z1 : (zm1 s.heap a).objs.size = s.heap.objs.size + 1 := Heap.size_push ..
  have z2 : (zm2 s.heap a b).objs.size = s.heap.objs.size + 2 := by rw [Heap.size_push, z1]
  have z3 : (zm3 s.heap a b).objs.size = s.heap.objs.size + 3 := by rw [Heap.size_push, z2]
  have z4 : (zm4 s.heap a b).objs.size = s.heap.objs.size + 4 := by rw [Heap.size_push, z3]
  have z5 : (zm5 s.heap a b).objs.size = s.heap.objs.size + 5 := by rw [Heap.size_push, z4]
  have up : ∀ {h : Heap} {c : Addr} {o u : Obj}, h.get? c = some o → (h.push u).get? c = some o := fun e => Heap.get?_push_of_some _ e
  have g5 : (zm5 s.heap a b).get? (zm4 s.heap a b).objs.size = some _ := Heap.get?_push_size _ rfl
  have g4 : (zm5 s.heap a b).get? (zm3 s.heap a b).objs.size = some _ := up (Heap.get?_push_size _ rfl)
  have g3 : (zm5 s.heap a b).get? (zm2 s.heap a b).objs.size = some _ := up (up (Heap.get?_push_size _ rfl))
  have g2 : (zm5 s.heap a b).get? (zm1 s.heap a).objs.size = some _ := up (up (up (Heap.get?_push_size _ rfl)))
  have g1 : (zm5 s.heap a b).get? s.heap.objs.size = some _ := up (up (up (up (Heap.get?_push_size _ rfl))))
  show _ ∧ _
  rw [z2, z3, z4] at g5
  rw [z1, z2] at g3
  rw [z3] at g4
  rw [z1] at g2
  rw [z4]
  exact ⟨⟨_, g5, rfl⟩, h _ g5 g3 g4 ⟨_, g1, rfl, rfl⟩ ⟨_, g2, rfl, rfl⟩ z5 fun c o x => up (up (up (up (up x))))⟩
end
/-- a tuple and a list, as they stand at each turn -/
def ItzM (K : PySem.W.Frag) (a b : Addr) : It :=
  ⟨fun i H => ∃ (xs ys : List V) (x y : V), SqT K H a xs ∧ SqL K H b ys ∧ xs[i]? = some x ∧ ys[i]? = some y,
    fun i H v H' => ∃ T x y, v = .ref T ∧ H T = none ∧ H' = upd H T (.tup [x, y]) ∧ (∀ xs, SqT K H a xs → xs[i]? = some x) ∧ ∀ ys, SqL K H b ys → ys[i]? = some y,
    fun i H => ∃ xs ys : List V, SqT K H a xs ∧ SqL K H b ys ∧ i ≤ xs.length ∧ i ≤ ys.length ∧ (xs.length = i ∨ ys.length = i)⟩
theorem turn_zipM {P : Program} {w : World} {K : PySem.W.Frag} {elts : List Expr} {kk : Nat} {tpos : Pos} {a b z TI TO i1 i2 : Addr} (D : ZipApart z TI TO i1 i2 a b) :
    Turn P w K (.Tuple elts kk tpos) (ItzM K a b) [z, TI, TO, i1, i2] z (fun i h => IsZip h z TI TO .none ∧ IsPair h TI (.ref i1) (.ref i2) ∧ (∃ x y, IsPair h TO x y) ∧ h.IsTupleIter i1 a i ∧ h.IsListIter i2 b i) where
  mem := by simp
  obj := fun i h st c hc => by
    obtain ⟨hz, hTI, ⟨x, y, hTO⟩, ⟨o1, e1, _, d1⟩, ⟨o2, e2, _, d2⟩⟩ := st
    have e' : c = z ∨ c = TI ∨ c = TO ∨ c = i1 ∨ c = i2 := by simpa using hc
    rcases e' with q | q | q | q | q
    · rw [q]; exact ⟨_, hz, fun v q => nomatch q⟩
    · rw [q]; exact ⟨_, hTI, fun v q => nomatch q⟩
    · rw [q]; exact ⟨_, hTO, fun v q => nomatch q⟩
    · rw [q]; exact ⟨o1, e1, fun v q => by rw [d1] at q; cases q⟩
    · rw [q]; exact ⟨o2, e2, fun v q => by rw [d2] at q; cases q⟩
  keep := fun i h h' st k => by
    obtain ⟨hz, hTI, ⟨x, y, hTO⟩, h1, h2⟩ := st
    exact ⟨k z (by simp) _ hz, k TI (by simp) _ hTI, ⟨x, y, k TO (by simp) _ hTO⟩, h1.at fun o q => k i1 (by simp) o q, h2.at fun o q => k i2 (by simp) o q⟩
  item := by
    intro X hP hw hK hc i pins s σ H E I hf st hg
    subst hP hw hK
    obtain ⟨hz, hTI, ⟨x0, y0, hTO⟩, h1, h2⟩ := st
    obtain ⟨xs, ys, x, y, hqx, hqy, hx, hy⟩ := hg
    obtain ⟨its, rv, p, _⟩ := I.tuple hqx
    obtain ⟨its2, rv2, p2, _⟩ := I.list hqy
    obtain ⟨u, hu, ru⟩ := rv.get hx
    obtain ⟨u2, hu2, ru2⟩ := rv2.get hy
    have hzl : z < s.heap.objs.size := Heap.lt_size hz
    have S : ZipSep2 z TI TO i1 i2 [i1, a] [i2, b] := ⟨D.TIz, D.TOz, D.TITO, D.TIi1, by simp, by simp [D.i1z.symm, D.l1z.symm], by simp [D.TOi1, D.l1TO.symm], D.TIi2, by simp, by simp [D.i2z.symm, D.l2z.symm], by simp [D.TOi2, D.l2TO.symm], by simp [D.i12, D.l2i1.symm], by simp [D.i12.symm, D.l1i2.symm]⟩
    have hh : X.A.in1.handled = none := I.ok.hd hc
    refine wpAny_pyNext_zipD2_item S (Draws.tuple hh i1 a D.l1i1 its.toArray) (Draws.list hh i2 b D.l2i2 its2.toArray) hz hTI hTO ⟨h1, p⟩ ⟨h2, p2.isList⟩ (by simpa using (List.getElem?_eq_some_iff.mp hu).1) (by simpa using (List.getElem?_eq_some_iff.mp hu2).1)
      fun x1 x2 h' tk e1 e2 z' TO' st1 st2 hT hsz hk => ?_
    have e1 : x1 = u := by
      have e1 : its.toArray[i]? = some x1 := e1
      rw [show its.toArray[i]? = some u from by simpa using hu] at e1
      exact (Option.some.inj e1).symm
    have e2 : x2 = u2 := by
      have e2 : its2.toArray[i]? = some x2 := e2
      rw [show its2.toArray[i]? = some u2 from by simpa using hu2] at e2
      exact (Option.some.inj e2).symm
    subst e1 e2
    refine ⟨_, rfl, wpAny_letOwnedTupleGo_zip (s := { s with heap := h', toks := tk }) z' fun h'' z'' sb => ?_⟩
    have hT2 : h''.get? s.heap.objs.size = some { cls := .type "tuple", data := .seq #[x1, x2] } := (sb.2 _ (Nat.ne_of_gt hzl)).trans hT
    have new : ObjOk X.prog X.w (upd H s.heap.objs.size (.tup [x, y])) h'' s.heap.objs.size (.tup [x, y]) :=
      ⟨by show 2 ≤ sizeLine; decide, [x1, x2], .cons ru (.cons ru2 .nil), ⟨_, hT2, rfl, _, rfl⟩⟩
    have I1 : Inv X pins σ (upd H s.heap.objs.size (.tup [x, y])) { s with heap := h'', toks := tk } :=
      I.turnedNew (t' := tk) (ch := [z, TI, TO, i1, i2]) (fun c o hb q => (sb.2 c (fun q' => hb (by simp [q']))).trans (hk c o (fun q' => hb (by simp [q'])) (fun q' => hb (by simp [q'])) (fun q' => hb (by simp [q'])) (fun q' => hb (by simp [q'])) q)) hf (Nat.le_refl _) new
    refine ⟨.ref s.heap.objs.size, _, I1, rfl, ⟨_, x, y, rfl, I.hok.fresh (Nat.le_refl _), rfl, fun l hl => by rw [I.tuple_inj hl hqx]; exact hx, fun l hl => by rw [I.list_inj hl hqy]; exact hy⟩, ⟨z'', ?_, ⟨x1, x2, ?_⟩, ?_, ?_⟩, fun c hcm => ?_⟩
    · exact (sb.2 _ D.TIz).trans (hk _ _ D.TIz D.TITO D.TIi1 D.TIi2 hTI)
    · exact (sb.2 _ D.TOz).trans TO'
    · exact st1.1.at fun o q => (sb.2 _ D.i1z).trans q
    · exact st2.1.at fun o q => (sb.2 _ D.i2z).trans q
    · have hlt : c < s.heap.objs.size := by
        have e' : c = z ∨ c = TI ∨ c = TO ∨ c = i1 ∨ c = i2 := by simpa using hcm
        rcases e' with q | q | q | q | q
        · rw [q]; exact hzl
        · rw [q]; exact Heap.lt_size hTI
        · rw [q]; exact Heap.lt_size hTO
        · rw [q]; obtain ⟨_, e1, _⟩ := h1; exact Heap.lt_size e1
        · rw [q]; obtain ⟨_, e2, _⟩ := h2; exact Heap.lt_size e2
      rw [upd_ne (Nat.ne_of_lt hlt)]
      exact (hf c hcm).1
  done := by
    intro X hP hw hK hc i pins s σ H E I hf st hg
    subst hP hw hK
    obtain ⟨hz, hTI, ⟨x0, y0, hTO⟩, h1, h2⟩ := st
    obtain ⟨xs, ys, hqx, hqy, hl1, hl2, hend⟩ := hg
    obtain ⟨its, rv, p, _⟩ := I.tuple hqx
    obtain ⟨its2, rv2, p2, _⟩ := I.list hqy
    have l1 := rv.length
    have l2 := rv2.length
    have S : ZipSep2 z TI TO i1 i2 [i1, a] [i2, b] := ⟨D.TIz, D.TOz, D.TITO, D.TIi1, by simp, by simp [D.i1z.symm, D.l1z.symm], by simp [D.TOi1, D.l1TO.symm], D.TIi2, by simp, by simp [D.i2z.symm, D.l2z.symm], by simp [D.TOi2, D.l2TO.symm], by simp [D.i12, D.l2i1.symm], by simp [D.i12.symm, D.l1i2.symm]⟩
    have hh : X.A.in1.handled = none := I.ok.hd hc
    refine wpAny_pyNext_zipD2_end S (Draws.tuple hh i1 a D.l1i1 its.toArray) (Draws.list hh i2 b D.l2i2 its2.toArray) hz hTI hTO ⟨h1, p⟩ ⟨h2, p2.isList⟩ (by simp; omega) (by simp; omega) (by simp; omega) fun h' tk hk => ⟨rfl, I.turnedL (t' := tk) (ch := [z, TI, TO, i1, i2]) (fun c o hb q =>
      hk c o (fun q' => hb (by simp [q'])) (fun q' => hb (by simp [q'])) (fun q' => hb (by simp [q'])) (fun q' => hb (by simp [q'])) q) hf⟩
  self := fun A i s Q E st h => wpAny_pyIter_zip st.1 h

/-- tuples, lists, a tuple and a list -/
def iZipAll (K : PySem.W.Frag) (ta : TA) : TI := fun σ H R => ta σ H fun vs H1 => ∃ a b xs ys, vs = [.ref a, .ref b] ∧ ((SqL K H1 a xs ∧ SqL K H1 b ys ∧ R (Itz K a b) H1) ∨ (SqT K H1 a xs ∧ SqT K H1 b ys ∧ R (RZ.ItzT K a b) H1) ∨ (SqT K H1 a xs ∧ SqL K H1 b ys ∧ R (ItzM K a b) H1))
theorem pi_zipAll {X : Cx} {e e2 : Expr} {ta : TA} {p pos tpos : Pos} {elts : List Expr} {kk : Nat} (hg : Gl X "zip") (hm : X.mg "zip" = none) (ha : PA X [e, e2] ta)
    (hs : starEach [e, e2] X.env = (false, eval e X.env) :: starEach [e2] X.env := by rfl) (hpl : (backTo pos (starEach [e2] X.env)).any (·.1) = false := by rfl) :
    PI X (.Tuple elts kk tpos) (.Call (.Name "zip" p) [e, e2] [] pos) (iZipAll X.K ta) := by
  refine ⟨fun pins s σ H R I h => ?_⟩
  refine Call_ (ld_blt I hg hm PyProof.Rows.boot_zip (PyProof.Rows.callWith_type1 (thn (ha.run pos pins s σ H _ I h) fun us s1 ⟨vs, H1, I1, r1, q1⟩ => ?_) hs hpl))
  obtain ⟨a, b, xs, ys, ex, q1⟩ := q1
  subst ex
  cases r1 with
  | cons r rr =>
    cases rr with
    | cons r' rr =>
      cases rr
      cases r
      cases r'
      have fresh5 : ∀ c, c ∈ [s1.heap.objs.size + 4, s1.heap.objs.size + 2, s1.heap.objs.size + 3, s1.heap.objs.size, s1.heap.objs.size + 1] → FpOk X pins H1 c := fun c hcm => by
        have e' : c = s1.heap.objs.size + 4 ∨ c = s1.heap.objs.size + 2 ∨ c = s1.heap.objs.size + 3 ∨ c = s1.heap.objs.size ∨ c = s1.heap.objs.size + 1 := by simpa using hcm
        have hle : s1.heap.objs.size ≤ c := by omega
        exact I1.fpOk hle (I1.hok.fresh hle)
      rcases q1 with ⟨hqx, hqy, q⟩ | ⟨hqx, hqy, q⟩ | ⟨hqx, hqy, q⟩
      · obtain ⟨its, rv, p1, _⟩ := I1.list hqx
        obtain ⟨its2, rv2, p2, _⟩ := I1.list hqy
        refine call_zip_2 p1.isList p2.isList fun h' hz hTI hTO h1 h2 hsz hk => wpAny_pyIter_zip hz ?_
        have I2 : Inv X pins σ H1 { s1 with heap := h' } := I1.kept (t' := s1.toks) hk
        exact ⟨s1.heap.objs.size + 4, [s1.heap.objs.size + 4, s1.heap.objs.size + 2, s1.heap.objs.size + 3, s1.heap.objs.size, s1.heap.objs.size + 1], _, _, H1, rfl, I2, turn_zip (PySem.W.ktu_apart s1.heap.objs.size a b p1.lt p2.lt), ⟨hz, hTI, ⟨_, _, hTO⟩, h1, h2⟩, fresh5, q⟩
      · obtain ⟨its, rv, p1, _⟩ := I1.tuple hqx
        obtain ⟨its2, rv2, p2, _⟩ := I1.tuple hqy
        obtain ⟨o1, ho1, _⟩ := id p1
        obtain ⟨o2, ho2, _⟩ := id p2
        refine RZ.call_zipT (show s1.heap.IsTuple a its.toArray from p1) (show s1.heap.IsTuple b its2.toArray from p2) fun h' hz hTI hTO h1 h2 hsz hk => wpAny_pyIter_zip hz ?_
        have I2 : Inv X pins σ H1 { s1 with heap := h' } := I1.kept (t' := s1.toks) hk
        exact ⟨s1.heap.objs.size + 4, [s1.heap.objs.size + 4, s1.heap.objs.size + 2, s1.heap.objs.size + 3, s1.heap.objs.size, s1.heap.objs.size + 1], _, _, H1, rfl, I2, RZ.turn_zipT (PySem.W.ktu_apart s1.heap.objs.size a b (Heap.lt_size ho1) (Heap.lt_size ho2)), ⟨hz, hTI, ⟨_, _, hTO⟩, h1, h2⟩, fresh5, q⟩
      · obtain ⟨its, rv, p1, _⟩ := I1.tuple hqx
        obtain ⟨its2, rv2, p2, _⟩ := I1.list hqy
        obtain ⟨o1, ho1, _⟩ := id p1
        refine call_zipM (show s1.heap.IsTuple a its.toArray from p1) p2.isList fun h' hz hTI hTO h1 h2 hsz hk => wpAny_pyIter_zip hz ?_
        have I2 : Inv X pins σ H1 { s1 with heap := h' } := I1.kept (t' := s1.toks) hk
        exact ⟨s1.heap.objs.size + 4, [s1.heap.objs.size + 4, s1.heap.objs.size + 2, s1.heap.objs.size + 3, s1.heap.objs.size, s1.heap.objs.size + 1], _, _, H1, rfl, I2, turn_zipM (PySem.W.ktu_apart s1.heap.objs.size a b (Heap.lt_size ho1) p2.lt), ⟨hz, hTI, ⟨_, _, hTO⟩, h1, h2⟩, fresh5, q⟩
def iZipD (ta : TDA) : TDI := fun s G Q E => ta s G (fun ds G1 => match ds with
  | [.tup xs, .tup ys] => Q (pairsD xs ys) G1
  | [.lst xs, .lst ys] => Q (pairsD xs ys) G1
  | [.tup xs, .lst ys] => Q (pairsD xs ys) G1
  | _ => False) E
section
variable {X : Cx} {W : WX} {e e2 : Expr} {ta : TDA} {p pos tpos : Pos} {elts : List Expr} {kk : Nat}
/-- a new pair at each turn -/
theorem pair_turn {K : PySem.W.Frag} {F1 H1 F H : Hp} {G1 G : GD} {xs ys : List D} {us ws : List V} {i : Nat} {d : D} {T : Addr} {u z : V} (ra : Reps K F1 xs us) (rb : Reps K F1 ys ws) (st : Stp F1 H1 G1 F H G) (A : AbsH K F H G) (e : (pairsD xs ys)[i]? = some d)
    (hT : H T = none) (hu : us[i]? = some u) (hz : ws[i]? = some z) : ∃ F', Stp F H G F' (upd H T (.tup [u, z])) G ∧ AbsH K F' (upd H T (.tup [u, z])) G ∧ Rep K F' d (.ref T) := by
  obtain ⟨x, y, hx, hy, rfl⟩ := pairsD_at xs ys i d e
  obtain ⟨u', hu', ru⟩ := ra.get hx
  obtain ⟨z', hz', rz⟩ := rb.get hy
  rw [hu] at hu'; cases hu'
  rw [hz] at hz'; cases hz'
  have l1 := Le.upd (o := .tup [u, z]) (A.fnone hT)
  exact ⟨_, A.stpF hT, A.laidF hT trivial, .tup (.inl (.inl upd_same)) (.cons ((ru.mono st.le).mono l1) (.cons ((rz.mono st.le).mono l1) .nil))⟩
theorem pair_go {K : PySem.W.Frag} {F1 : Hp} {xs ys : List D} {us ws : List V} {i : Nat} {d : D} (ra : Reps K F1 xs us) (rb : Reps K F1 ys ws) (e : (pairsD xs ys)[i]? = some d) : ∃ u z, us[i]? = some u ∧ ws[i]? = some z := by
  obtain ⟨x, y, hx, hy, rfl⟩ := pairsD_at xs ys i d e
  obtain ⟨u', hu', ru⟩ := ra.get hx
  obtain ⟨z', hz', rz⟩ := rb.get hy
  exact ⟨u', z', hu', hz'⟩
theorem di_zip (hm : X.mg "zip" = none) (ha : DA X W [e, e2] ta) (hg : Gl X "zip" := by rfl)
    (hs : starEach [e, e2] X.env = (false, eval e X.env) :: starEach [e2] X.env := by rfl) (hpl : (backTo pos (starEach [e2] X.env)).any (·.1) = false := by rfl) :
    DI X W (.Tuple elts kk tpos) (.Call (.Name "zip" p) [e, e2] [] pos) (iZipD ta) := PI.imp (pi_zipAll hg hm ha hs hpl) fun σ H R q => by
  obtain ⟨F, s, G, QD, ED, A, S, t, l⟩ := q
  refine ⟨F, s, G, _, ED, A, S, t, ⟨fun F1 H1 ds G1 vs st1 A1 r1 q1 => ?_, l.ex⟩⟩
  split at q1
  · rename_i xs ys
    obtain ⟨v, w, rfl, ra, rb⟩ := reps2 r1
    cases ra with
    | @tup a us _ ha ra =>
      cases rb with
      | @tup b ws _ hb rb =>
        refine ⟨_, _, _, _, rfl, .inr (.inl ⟨A1.sqT ha, A1.sqT hb, l.ok F1 H1 _ G1 _ st1 A1 ⟨fun i d F H G e st A => ?_, fun F H G st A => ⟨us, ws, A.sqT (st.le.sqT ha), A.sqT (st.le.sqT hb), ?_⟩⟩ q1⟩)⟩
        · obtain ⟨u, z, hu, hz⟩ := pair_go ra rb e
          refine ⟨⟨us, ws, u, z, A.sqT (st.le.sqT ha), A.sqT (st.le.sqT hb), hu, hz⟩, fun v H' yl => ?_⟩
          obtain ⟨T, u', z', rfl, hT, rfl, h1, h2⟩ := yl
          exact pair_turn ra rb st A e hT (h1 us (A.sqT (st.le.sqT ha))) (h2 ws (A.sqT (st.le.sqT hb)))
        · rw [pairsD_len, ra.length, rb.length]; omega
  · rename_i xs ys
    obtain ⟨v, w, rfl, ra, rb⟩ := reps2 r1
    cases ra with
    | @lst a us _ ha ra =>
      cases rb with
      | @lst b ws _ hb rb =>
        refine ⟨_, _, _, _, rfl, .inl ⟨A1.sqL ha, A1.sqL hb, l.ok F1 H1 _ G1 _ st1 A1 ⟨fun i d F H G e st A => ?_, fun F H G st A => ⟨us, ws, A.sqL (st.le.sqL ha), A.sqL (st.le.sqL hb), ?_⟩⟩ q1⟩⟩
        · obtain ⟨u, z, hu, hz⟩ := pair_go ra rb e
          refine ⟨⟨us, ws, u, z, A.sqL (st.le.sqL ha), A.sqL (st.le.sqL hb), hu, hz⟩, fun v H' yl => ?_⟩
          obtain ⟨T, u', z', rfl, hT, rfl, h1, h2⟩ := yl
          exact pair_turn ra rb st A e hT (h1 us (A.sqL (st.le.sqL ha))) (h2 ws (A.sqL (st.le.sqL hb)))
        · rw [pairsD_len, ra.length, rb.length]; omega
  · rename_i xs ys
    obtain ⟨v, w, rfl, ra, rb⟩ := reps2 r1
    cases ra with
    | @tup a us _ ha ra =>
      cases rb with
      | @lst b ws _ hb rb =>
        refine ⟨_, _, _, _, rfl, .inr (.inr ⟨A1.sqT ha, A1.sqL hb, l.ok F1 H1 _ G1 _ st1 A1 ⟨fun i d F H G e st A => ?_, fun F H G st A => ⟨us, ws, A.sqT (st.le.sqT ha), A.sqL (st.le.sqL hb), ?_⟩⟩ q1⟩)⟩
        · obtain ⟨u, z, hu, hz⟩ := pair_go ra rb e
          refine ⟨⟨us, ws, u, z, A.sqT (st.le.sqT ha), A.sqL (st.le.sqL hb), hu, hz⟩, fun v H' yl => ?_⟩
          obtain ⟨T, u', z', rfl, hT, rfl, h1, h2⟩ := yl
          exact pair_turn ra rb st A e hT (h1 us (A.sqT (st.le.sqT ha))) (h2 ws (A.sqL (st.le.sqL hb)))
        · rw [pairsD_len, ra.length, rb.length]; omega
  · exact q1.elim
end

/-! ### enumerate of a tuple, of a list -/
section
variable {prog : Program} {w : World} {A : Around} {E : Value → Shared → Prop} {s : Shared}
theorem meets_enumT (a : Addr) (items : Array Value) : Meets (Builtin.«enumerate.__new__» ⟨[.type "enumerate", .ref a], []⟩) (fun _ R s => s.heap.IsTuple a items ∧ (∃ o, s.heap.get? a = some o) ∧
      R (.ok (.ret (.ref (s.heap.push { cls := .type "tuple_iterator", data := .fields #[.ref a, .int 0 0] }).objs.size)))
        { s with heap := (s.heap.push { cls := .type "tuple_iterator", data := .fields #[.ref a, .int 0 0] }).push { cls := .type "enumerate", data := .fields #[.none, .bool false, .ref s.heap.objs.size, rawInt 0, .none, .none] } }) :=
  .of_wp fun prog w A R s h => by
    obtain ⟨hp, g, d, tk, os⟩ := s; obtain ⟨hT, ⟨o, ho⟩, h⟩ := h
    have hsub := sub_enumerate
    have hL : Heap.IsTuple (Shared.heap ⟨hp, g, d, tk, os⟩) a items := hT
    have ho' : (Shared.heap ⟨hp, g, d, tk, os⟩).get? a = some o := ho
    wp_walk using wpAny_loadPart ho'
    refine wpAny_stack_any fun st => wpAny_pure ?_
    split
    · rename_i c _ _ _ _ _
      cases (c == Value.type "enumerate")
      · wp_walk using wpAny_loadPart ho', wpAny_pyIter_tuple hL
        exact ⟨_, rfl, h⟩
      · wp_walk using wpAny_loadPart ho', wpAny_pyIter_tuple hL
        exact ⟨_, rfl, h⟩
    · wp_walk using wpAny_loadPart ho', wpAny_pyIter_tuple hL
      exact ⟨_, rfl, h⟩
end
end DL
end
section
set_option maxRecDepth 100000
set_option maxHeartbeats 1000000
/-! enumerate of a tuple or a list. -/
namespace DL
open PySem PySem.Spec PyProof.Rows L2
theorem call_enumT {prog : Program} {w : World} {A : Around} {E : Value → Shared → Prop} {s : Shared} {a : Addr} {items : Array Value} {Q : Value → Shared → Prop} (hT : s.heap.IsTuple a items)
    (h : ∀ h', IsEnum h' (s.heap.objs.size + 1) s.heap.objs.size 0 .none → h'.IsTupleIter s.heap.objs.size a 0 → h'.objs.size = s.heap.objs.size + 2 →
      (∀ b o, s.heap.get? b = some o → h'.get? b = some o) → Q (.ref (s.heap.objs.size + 1)) { s with heap := h' }) : wpAny (model prog w) A (call (.type "enumerate") [.ref a]) Q E s := by
  refine callType_new F.called_enumerate (by decide) (F.typeCall_enumerate_1 _) (F.newCall_enumerate_1 _) (fun obj => F.args_object_init_2 obj _) F.entry_enumerate_new
    (meets_enumT a items) ⟨hT, let ⟨o, e, _⟩ := hT; ⟨o, e⟩, ?_⟩
  have hz : (s.heap.push { cls := .type "tuple_iterator", data := .fields #[.ref a, .int 0 0] }).objs.size = s.heap.objs.size + 1 := Heap.size_push ..
  show _ ∧ _
  rw [hz]
  have he : IsEnum ((s.heap.push { cls := .type "tuple_iterator", data := .fields #[.ref a, .int 0 0] }).push
      { cls := .type "enumerate", data := .fields #[.none, .bool false, .ref s.heap.objs.size, rawInt 0, .none, .none] }) (s.heap.objs.size + 1) s.heap.objs.size 0 .none := by
    have := Heap.get?_push_size (s.heap.push { cls := .type "tuple_iterator", data := .fields #[.ref a, .int 0 0] })
      (o := { cls := .type "enumerate", data := .fields #[.none, .bool false, .ref s.heap.objs.size, rawInt 0, .none, .none] }) rfl
    rw [hz] at this; exact this
  refine ⟨⟨_, he, rfl⟩, h _ he ⟨_, Heap.get?_push_of_some _ (Heap.get?_push_size _ rfl), rfl, rfl⟩ (by rw [Heap.size_push, hz]) fun b o x => Heap.get?_push_of_some _ (Heap.get?_push_of_some _ x)⟩
/-- the tuple at a, each item in a new pair -/
def IteT (K : PySem.W.Frag) (a : Addr) : It :=
  ⟨fun i H => ∃ (xs : List V) (x : V), SqT K H a xs ∧ xs[i]? = some x, fun i H v H' => ∃ T x, v = .ref T ∧ H T = none ∧ H' = upd H T (.tup [.int (i : Nat), x]) ∧ ∀ xs, SqT K H a xs → xs[i]? = some x, fun i H => ∃ xs : List V, SqT K H a xs ∧ xs.length = i⟩
theorem turn_enumT {P : Program} {w : World} {K : PySem.W.Frag} {elts : List Expr} {kk : Nat} {tpos : Pos} (a e it : Addr) (hai : a ≠ it) (hea : e ≠ a) :
    Turn P w K (.Tuple elts kk tpos) (IteT K a) [e, it] e (fun i h => (∃ old, IsEnum h e it ((i : Nat) : Int) old) ∧ h.IsTupleIter it a i ∧ e ≠ it) where
  mem := by simp
  obj := fun i h st b hb => by
    obtain ⟨⟨old, he⟩, ⟨o, ho, hc, hd⟩, _⟩ := st
    have e' : b = e ∨ b = it := by simpa using hb
    rcases e' with z | z
    · rw [z]; exact ⟨_, he, fun v q => nomatch q⟩
    · rw [z]; exact ⟨o, ho, fun v q => by rw [hd] at q; cases q⟩
  keep := fun i h h' st k => let ⟨⟨old, he⟩, hi, hne⟩ := st; ⟨⟨old, k e (by simp) _ he⟩, hi.at fun o q => k it (by simp) o q, hne⟩
  item := by
    intro X hP hw hK hc i pins s σ H E I hf st hg
    subst hP hw hK
    obtain ⟨⟨old, he⟩, hit, hne⟩ := st
    obtain ⟨xs, x, hq, hx⟩ := hg
    obtain ⟨its, rv, p, hz⟩ := I.tuple hq
    obtain ⟨u, hu, ru⟩ := rv.get hx
    have hel : e < s.heap.objs.size := Heap.lt_size he
    have hil : it < s.heap.objs.size := by obtain ⟨_, q, _⟩ := hit; exact Heap.lt_size q
    have hh : X.A.in1.handled = none := I.ok.hd hc
    refine wpAny_pyNext_enum_itemD (Draws.tuple hh it a hai its.toArray) he ⟨hit, p⟩ (by simpa using (List.getElem?_eq_some_iff.mp hu).1) hne (by simp [hne, hea]) fun x1 h' tk e1 ho st1 hT hsz hk => ?_
    have e1 : x1 = u := by
      have e1 : its.toArray[i]? = some x1 := e1
      rw [show its.toArray[i]? = some u from by simpa using hu] at e1
      exact (Option.some.inj e1).symm
    subst e1
    refine ⟨_, rfl, wpAny_letOwnedTupleGo_enum (s := { s with heap := h', toks := tk + 1 }) ho fun h'' he' sb => ?_⟩
    have hT2 : h''.get? s.heap.objs.size = some { cls := .type "tuple", data := .seq #[.int i tk, x1] } := (sb.2 _ (Nat.ne_of_gt hel)).trans hT
    have new : ObjOk X.prog X.w (upd H s.heap.objs.size (.tup [.int (i : Nat), x])) h'' s.heap.objs.size (.tup [.int (i : Nat), x]) :=
      ⟨by show 2 ≤ sizeLine; decide, [.int i tk, x1], .cons ⟨_, rfl⟩ (.cons ru .nil), ⟨_, hT2, rfl, _, rfl⟩⟩
    have I1 : Inv X pins σ (upd H s.heap.objs.size (.tup [.int (i : Nat), x])) { s with heap := h'', toks := tk + 1 } :=
      I.turnedNew (ch := [e, it]) (fun b ob hb q => (sb.2 b (fun z => hb (by simp [z]))).trans (hk b ob (fun z => hb (by simp [z])) (fun z => hb (by simp [z])) q)) hf (Nat.le_refl _) new
    refine ⟨.ref s.heap.objs.size, _, I1, rfl, ⟨_, x, rfl, I.hok.fresh (Nat.le_refl _), rfl, fun ys hy => by rw [I.tuple_inj hy hq]; exact hx⟩, ⟨⟨x1, ?_⟩, st1.1.at fun o q => (sb.2 it (Ne.symm hne)).trans q, hne⟩, fun b hb => ?_⟩
    · have e1 : ((i + 1 : Nat) : Int) = (i : Int) + 1 := by omega
      rw [e1]; exact he'
    · have hb' : b < s.heap.objs.size := by
        have e' : b = e ∨ b = it := by simpa using hb
        rcases e' with z | z
        · rw [z]; exact hel
        · rw [z]; exact hil
      rw [upd_ne (Nat.ne_of_lt hb')]
      exact (hf b hb).1
  done := by
    intro X hP hw hK hc i pins s σ H E I hf st hg
    subst hP hw hK
    obtain ⟨⟨old, he⟩, hit, hne⟩ := st
    obtain ⟨xs, hq, hx⟩ := hg
    obtain ⟨its, rv, p, hz⟩ := I.tuple hq
    obtain ⟨f0, f1, f2, f3, f4, f5⟩ := hf it (by simp)
    have hl := rv.length
    have hh : X.A.in1.handled = none := I.ok.hd hc
    have ei : i = its.toArray.size := by simp; omega
    subst ei
    exact wpAny_pyNext_enum_endD (Draws.tuple hh it a hai its.toArray) he ⟨hit, p⟩ fun h' eb => ⟨rfl, I.turned (t' := s.toks) (fun b o hb q => eb b o hb q) f0 f1 f3 f4 f5⟩
  self := fun A i s Q E st h => let ⟨⟨_, he⟩, _⟩ := st; wpAny_pyIter_enum he h
def iEnumA (K : PySem.W.Frag) (ta : TA) : TI := fun σ H R => ta σ H fun vs H1 => ∃ a xs, vs = [.ref a] ∧ ((SqL K H1 a xs ∧ R (Ite K a) H1) ∨ (SqT K H1 a xs ∧ R (IteT K a) H1))
theorem pi_enumA {X : Cx} {e : Expr} {ta : TA} {p pos tpos : Pos} {elts : List Expr} {kk : Nat} (hg : Gl X "enumerate") (hm : X.mg "enumerate" = none) (ha : PA X [e] ta) (hs : starEach [e] X.env = [(false, eval e X.env)] := by rfl) :
    PI X (.Tuple elts kk tpos) (.Call (.Name "enumerate" p) [e] [] pos) (iEnumA X.K ta) := by
  refine ⟨fun pins s σ H R I h => ?_⟩
  refine Call_ (ld_blt I hg hm boot_enumerate (PyProof.Rows.callWith_type1 (thn (ha.run pos pins s σ H _ I h) fun us s1 ⟨vs, H1, I1, r1, q1⟩ => ?_) hs rfl))
  obtain ⟨a, xs, ex, q⟩ := q1
  subst ex
  cases r1 with
  | cons r rr =>
    cases rr
    cases r
    have fresh : ∀ b ∈ [s1.heap.objs.size + 1, s1.heap.objs.size], FpOk X pins H1 b := fun b hb => by
      have e' : b = s1.heap.objs.size + 1 ∨ b = s1.heap.objs.size := by simpa using hb
      have hle : s1.heap.objs.size ≤ b := by omega
      exact I1.fpOk hle (I1.hok.fresh hle)
    rcases q with ⟨hq, q⟩ | ⟨hq, q⟩
    · obtain ⟨its, rv, p', hz⟩ := I1.list hq
      refine call_enumerate_list p'.isList fun h' he hit hsz hk => wpAny_pyIter_enum he ?_
      have I2 : Inv X pins σ H1 { s1 with heap := h' } := I1.kept (t' := s1.toks) hk
      exact ⟨s1.heap.objs.size + 1, [s1.heap.objs.size + 1, s1.heap.objs.size], _, _, H1, rfl, I2, turn_enum a (s1.heap.objs.size + 1) s1.heap.objs.size, ⟨⟨.none, he⟩, hit, Nat.succ_ne_self _⟩, fresh, q⟩
    · obtain ⟨its, rv, p', hz⟩ := I1.tuple hq
      obtain ⟨o1, ho1, _⟩ := id p'
      have hlt := Heap.lt_size ho1
      refine call_enumT p' fun h' he hit hsz hk => wpAny_pyIter_enum he ?_
      have I2 : Inv X pins σ H1 { s1 with heap := h' } := I1.kept (t' := s1.toks) hk
      exact ⟨s1.heap.objs.size + 1, [s1.heap.objs.size + 1, s1.heap.objs.size], _, _, H1, rfl, I2, turn_enumT a (s1.heap.objs.size + 1) s1.heap.objs.size (Nat.ne_of_lt hlt) (Nat.ne_of_gt (Nat.lt_succ_of_lt hlt)), ⟨⟨.none, he⟩, hit, Nat.succ_ne_self _⟩, fresh, q⟩
def enumD (i : Nat) : List D → List D
  | [] => []
  | d :: ds => .tup [.int (i : Nat), d] :: enumD (i + 1) ds
theorem enumD_len : ∀ (xs : List D) (i : Nat), (enumD i xs).length = xs.length
  | [], _ => rfl
  | _ :: xs, i => congrArg Nat.succ (enumD_len xs (i + 1))
theorem enumD_at : ∀ (xs : List D) (k i : Nat) (d : D), (enumD k xs)[i]? = some d → ∃ x, xs[i]? = some x ∧ d = .tup [.int ((k + i : Nat) : Int), x]
  | [], _, _, _, h => by simp [enumD] at h
  | x :: xs, k, 0, d, h => ⟨x, rfl, by simpa [enumD] using h.symm⟩
  | x :: xs, k, i + 1, d, h => by
    obtain ⟨u, h1, h2⟩ := enumD_at xs (k + 1) i d (by simpa [enumD] using h)
    exact ⟨u, by simpa using h1, by rw [h2]; congr 3; omega⟩
def iEnumD (t : TDA) : TDI := fun s G Q E => t s G (fun ds G1 => match ds with
  | [.tup xs] => Q (enumD 0 xs) G1
  | [.lst xs] => Q (enumD 0 xs) G1
  | _ => False) E
section
variable {X : Cx} {W : WX} {e : Expr} {t : TDA} {p pos tpos : Pos} {elts : List Expr} {kk : Nat}
theorem enum_turn {K : PySem.W.Frag} {F1 H1 F H : Hp} {G1 G : GD} {xs : List D} {us : List V} {i : Nat} {d : D} {T : Addr} {u : V} (ra : Reps K F1 xs us) (st : Stp F1 H1 G1 F H G) (A : AbsH K F H G) (e : (enumD 0 xs)[i]? = some d)
    (hT : H T = none) (hu : us[i]? = some u) : ∃ F', Stp F H G F' (upd H T (.tup [.int (i : Nat), u])) G ∧ AbsH K F' (upd H T (.tup [.int (i : Nat), u])) G ∧ Rep K F' d (.ref T) := by
  obtain ⟨x, hx, rfl⟩ := enumD_at xs 0 i d e
  obtain ⟨u', hu', ru⟩ := ra.get hx
  rw [hu] at hu'; cases hu'
  have l1 := Le.upd (o := .tup [.int (i : Nat), u]) (A.fnone hT)
  refine ⟨_, A.stpF hT, A.laidF hT trivial, .tup (.inl (.inl upd_same)) (.cons ?_ (.cons ((ru.mono st.le).mono l1) .nil))⟩
  rw [Nat.zero_add]; exact .int _
theorem di_enum (hm : X.mg "enumerate" = none) (ha : DA X W [e] t) (hg : Gl X "enumerate" := by rfl) (hs : starEach [e] X.env = [(false, eval e X.env)] := by rfl) :
    DI X W (.Tuple elts kk tpos) (.Call (.Name "enumerate" p) [e] [] pos) (iEnumD t) := PI.imp (pi_enumA hg hm ha hs) fun σ H R q => by
  obtain ⟨F, s, G, QD, ED, A, S, t, l⟩ := q
  refine ⟨F, s, G, _, ED, A, S, t, ⟨fun F1 H1 ds G1 vs st1 A1 r1 q1 => ?_, l.ex⟩⟩
  split at q1
  · rename_i xs
    obtain ⟨v, rfl, ra⟩ := reps1 r1
    cases ra with
    | @tup a us _ ha ra =>
      refine ⟨_, us, rfl, .inr ⟨A1.sqT ha, l.ok F1 H1 _ G1 _ st1 A1 ⟨fun i d F H G e st A => ?_, fun F H G st A => ⟨us, A.sqT (st.le.sqT ha), ?_⟩⟩ q1⟩⟩
      · obtain ⟨x, hx, _⟩ := enumD_at xs 0 i d e
        obtain ⟨u, hu, _⟩ := ra.get hx
        refine ⟨⟨us, u, A.sqT (st.le.sqT ha), hu⟩, fun v H' yl => ?_⟩
        obtain ⟨T, u', rfl, hT, rfl, h1⟩ := yl
        exact enum_turn ra st A e hT (h1 us (A.sqT (st.le.sqT ha)))
      · rw [enumD_len, ra.length]
  · rename_i xs
    obtain ⟨v, rfl, ra⟩ := reps1 r1
    cases ra with
    | @lst a us _ ha ra =>
      refine ⟨_, us, rfl, .inl ⟨A1.sqL ha, l.ok F1 H1 _ G1 _ st1 A1 ⟨fun i d F H G e st A => ?_, fun F H G st A => ⟨us, A.sqL (st.le.sqL ha), ?_⟩⟩ q1⟩⟩
      · obtain ⟨x, hx, _⟩ := enumD_at xs 0 i d e
        obtain ⟨u, hu, _⟩ := ra.get hx
        refine ⟨⟨us, u, A.sqL (st.le.sqL ha), hu⟩, fun v H' yl => ?_⟩
        obtain ⟨T, u', rfl, hT, rfl, h1⟩ := yl
        exact enum_turn ra st A e hT (h1 us (A.sqL (st.le.sqL ha)))
      · rw [enumD_len, ra.length]; exact Nat.le_refl _
  · exact q1.elim
end
end DL
end
section
set_option maxRecDepth 100000
/-! Dict comprehensions; what is put into lists; texts joined and cut; pairs of divmod. -/
namespace DL
open PySem PySem.Spec PyProof.Rows L2
/-! ### {k: v for .. in ..} -/
def compK (g : TDG) (tk tv : TDE) (vs : List Nat) (s : SD) : List D → List (Key × D) → GD → (List (Key × D) → GD → Prop) → Prop
  | [], acc, G, Q => Q acc G
  | d :: ds, acc, G, Q => g d (wipeD s vs) G fun s2 G2 => tk s2 G2 (fun y G3 => tv s2 G3 (fun z G4 => ∃ k, keyD y = some k ∧ acc.length < sizeLine ∧ compK g tk tv vs s ds (putKD acc k z) G4 Q) noX) noX
def dDc (t : TDI) (g : TDG) (tk tv : TDE) (vs : List Nat) : TDE := fun s G Q E => t s G (fun ds G1 => compK g tk tv vs s ds [] G1 fun ys G2 => Q (.dict ys) G2) E
structure BlkDc (X : Cx) (W : WX) (kx vx tg iter : Expr) (scope : Scope) (own : List (Str × Nat)) (t : TDI) (g : TDG) (tk tv : TDE) : Prop where
  hi : DI X W tg iter t
  ok : BlkOk X.N X.env.scope scope own
  hg : ∀ (s : Shared) (H : Hp) (C : Addr) (cl : List (Str × Addr)) (fp : List Addr), DGw (X.blk s H scope (compEnvC scope cl C X.env) fp) (own.map (·.2)) tg g
  hk : ∀ (s : Shared) (H : Hp) (C : Addr) (cl : List (Str × Addr)) (fp : List Addr), DE (X.blk s H scope (compEnvC scope cl C X.env) fp) W0 kx tk
  hv : ∀ (s : Shared) (H : Hp) (C : Addr) (cl : List (Str × Addr)) (fp : List Addr), DE (X.blk s H scope (compEnvC scope cl C X.env) fp) W0 vx tv
section
variable {X : Cx} {W : WX} {kx vx tg iter : Expr} {scope : Scope} {own : List (Str × Nat)} {pos : Pos} {t : TDI} {g : TDG} {tk tv : TDE}
theorem dc_imp {vs : List Nat} {σ : L2.St} {H : Hp} {Q : VK} (q : liftE X.K W (dDc t g tk tv vs) σ H Q) : tDc (liftI X.K W t) (liftGw X.K vs g) (liftT X.K W0 dYes) (liftE X.K W0 tk) (liftE X.K W0 tv) vs σ H Q := by
  obtain ⟨F, s, G, QD, ED, A, S, q, l⟩ := q
  refine ⟨F, s, G, _, ED, A, S, q, ⟨fun F1 H1 ds G1 J st1 A1 wk q1 => ?_, l.ex⟩⟩
  intro Dn hD
  refine ⟨fun i m H => m = ds.length - i ∧ i ≤ ds.length ∧ ∃ F2 G2 accD accV, Stp F1 H1 G1 F2 H G2 ∧ AbsH X.K F2 H G2 ∧ H Dn = some (.dK accV) ∧ F2 Dn = none ∧ G2 Dn = none ∧ RepK X.K F2 accD accV ∧ compK g tk tv vs s (ds.drop i) accD G2 (fun ys G2 => QD (.dict ys) G2),
    ⟨ds.length, by simp, Nat.zero_le _, F1, G1, [], [], stp_beside hD, A1.beside hD, upd_same, A1.fnone hD, A1.gnone hD, .nil, q1⟩, ?_⟩
  rintro i m H2 ⟨rfl, hi, F2, G2, accD, accV, st2, A2, d2, f2, g2, ra, q2⟩
  have ntb : ∀ ps, HO.dK accV ≠ .tbl ps := fun _ z => by cases z
  by_cases hlt : i < ds.length
  · have e : ds[i]? = some ds[i] := List.getElem?_eq_getElem hlt
    obtain ⟨hgo, hy⟩ := wk.go i _ F2 H2 G2 e st2 A2
    rw [List.drop_eq_getElem_cons hlt] at q2
    refine .inr ⟨hgo, fun H' => ∃ F3 G3 accD accV, Stp F1 H1 G1 F3 H' G3 ∧ AbsH X.K F3 H' G3 ∧ H' Dn = some (.dK accV) ∧ F3 Dn = none ∧ G3 Dn = none ∧ RepK X.K F3 accD accV ∧ compK g tk tv vs s (ds.drop (i + 1)) accD G3 (fun ys G2 => QD (.dict ys) G2),
      fun H' h => ⟨ds.length - (i + 1), by omega, rfl, hlt, h⟩, fun x H' y => ?_⟩
    obtain ⟨F3, st3, A3, r3⟩ := hy x H' y
    have st23 := st2.trans st3
    have sw := (S.mono (st1.trans st23).le).wipe vs
    refine ⟨F3, _, G2, _, _, A3, sw, r3, q2, fun F4 H4 s4 G4 σ4 st4 A4 S4 w4 q4 => ?_⟩
    refine ⟨w4.trans wipe_wipe, F4, s4, G4, fun b G5 => b = true ∧ G5 = G4, noX, A4, S4, ⟨rfl, rfl⟩, ⟨fun F5 H5 b G5 st5 A5 q5 => ?_, fun _ _ _ _ _ _ _ _ _ _ _ z => z⟩⟩
    obtain ⟨rfl, rfl⟩ := q5
    refine iteT ⟨F5, s4, G5, _, noX, A5, S4.mono st5.le, q4, ⟨fun F6 H6 y6 G6 v6 st6 A6 r6 q6 => ?_, fun _ _ _ _ _ _ _ _ _ _ _ z => z⟩⟩
    refine ⟨F6, s4, G6, _, noX, A6, S4.mono (st5.trans st6).le, q6, ⟨fun F7 H7 z7 G7 v7 st7 A7 r7 q7 => ?_, fun _ _ _ _ _ _ _ _ _ _ _ z => z⟩⟩
    have st27 := (((st3.trans st4).trans st5).trans st6).trans st7
    obtain ⟨d7, f7, g7⟩ := st27.hid Dn _ d2 ntb f2 g2
    obtain ⟨k, hk, hl, q7⟩ := q7
    have rb := ra.mono st27.le
    refine ⟨accV, k, keyD_rep r6 hk, d7, by rw [← rb.length]; exact hl, F7, G7, putKD accD k z7, putK accV k v7, (st2.trans st27).hidW hD, A7.hidW f7 g7 d7 trivial, upd_same, f7, g7, rb.put r7, q7⟩
  · have e : i = ds.length := by omega
    subst e
    rw [List.drop_length] at q2
    obtain ⟨st3, A3⟩ := hid_frz st2 A2 hD d2 trivial f2 g2
    exact .inl ⟨wk.stop F2 H2 G2 st2 A2, l.ok _ H2 _ G2 _ (st1.trans st3) A3 (.dict upd_same (ra.mono (Le.upd f2))) q2⟩
theorem de_dc (hc : X.calm = true) (hN : X.N.Nodup) (b : BlkDc X W kx vx tg iter scope own t g tk tv) (hs : ∀ x, foldedSetIterable iter X.env x = pure x := by intro _; rfl) :
    DE X W (.DictComp kx vx [⟨tg, iter, [], 0⟩] scope pos) (dDc t g tk tv (own.map (·.2))) :=
  PE.imp (pe_dc (own := own) (g := liftGw X.K (own.map Prod.snd) g) (tt := liftT X.K W0 dYes) (tk := liftE X.K W0 tk) (tv := liftE X.K W0 tv) hc hN b.hi b.ok b.hg (fun _ _ _ _ _ => dts_nil) b.hk b.hv hs) fun _ _ _ q => dc_imp q
end
/-! ### x.append(e), x[i] = e of a list that is changed -/
def dAppend (to : TDE) (te : TDA) : TDE := fun s G Q E => to s G (fun d G1 => ∃ a xs0, d = .ref a ∧ G1 a = some (.lst xs0) ∧ te s G1 (fun vs G2 => match vs with
  | [v] => ∃ xs, G2 a = some (.lst xs) ∧ xs.length < sizeLine ∧ Q .non (put G2 a (.lst (xs ++ [v])))
  | _ => False) E) E
/-- x.extend(a list) -/
def dExtend (to : TDE) (te : TDA) : TDE := fun s G Q E => to s G (fun d G1 => ∃ a xs0, d = .ref a ∧ G1 a = some (.lst xs0) ∧ te s G1 (fun vs G2 => match vs with
  | [v] => ∃ xs ys, G2 a = some (.lst xs) ∧ v = .lst ys ∧ xs.length + ys.length ≤ sizeLine ∧ Q .non (put G2 a (.lst (xs ++ ys)))
  | _ => False) E) E
/-- x.pop() -/
def dPop (to : TDE) : TDE := fun s G Q E => to s G (fun d G1 => ∃ a xs v, d = .ref a ∧ G1 a = some (.lst (xs ++ [v])) ∧ Q v (put G1 a (.lst xs))) E
def gSubL (to ti : TDE) : TDG := fun v s G Q => to s G (fun d G1 => ti s G1 (fun i G2 => ∃ a xs k j, d = .ref a ∧ i = .int k ∧ G2 a = some (.lst xs) ∧ ixN xs.length k = some j ∧ Q s (put G2 a (.lst (xs.set j v)))) noX) noX
section
variable {X : Cx} {W : WX} {o e i : Expr} {to te ti : TDE} {ta : TDA} {apos pos : Pos}
theorem ty_list {K : PySem.W.Frag} {F H : Hp} {G : GD} {a : Addr} {xs : List D} (A : AbsH K F H G) (h : G a = some (.lst xs)) : tyV K "list" (.ref a) H := by
  obtain ⟨_, vs, e2, _⟩ := A.obj a _ h
  exact .inl ⟨rfl, vs, SqL.of e2⟩
theorem de_append (ho : DE X W o to) (ha : DA X W [e] ta) (hbase : attributeBase o "append" X.env (eval o X.env) = eval o X.env := by rfl)
    (hfew : ((backTo pos (starEach [e] X.env)).all (fun x => !x.1) && (backToKw pos (keywordEach [] X.env)).all (fun x => x.1.isSome)
      && decide ([e].length + ([] : List Keyword).length + (if ([] : List Keyword).isEmpty then 0 else 1) < 30)) = true := by rfl)
    (hline : (apos.endLine == pos.line) = true := by rfl) (hs : starEach [e] X.env = (false, eval e X.env) :: starEach [] X.env := by rfl) (hplain : (backTo pos (starEach [] X.env)).any (·.1) = false := by rfl) :
    DE X W (.Call (.Attribute o "append" apos) [e] [] pos) (dAppend to ta) := PE.imp (pe_bm PySem.F.plainAttrs_list PySem.F.slot_list_append PySem.F.type_list_append mt_append ho ha hbase hfew hline hs hplain) fun σ H Q q => by
  obtain ⟨F, s, G, QD, ED, A, S, t, l⟩ := q
  refine ⟨F, s, G, _, ED, A, S, t, ⟨fun F1 H1 d1 G1 x st1 A1 r1 q1 => ?_, l.ex⟩⟩
  obtain ⟨a, xs0, rfl, h0, q1⟩ := q1
  cases r1
  refine ⟨ty_list A1 h0, F1, s, G1, _, ED, A1, S.mono st1.le, q1, ⟨fun F2 H2 ds G2 vs st2 A2 r2 q2 => ?_, (l.mono st1).ex⟩⟩
  split at q2
  · rename_i v
    obtain ⟨u, rfl, ru⟩ := reps1 r2
    obtain ⟨xs, hx, hz, q2⟩ := q2
    obtain ⟨_, us, eh, rs⟩ := A2.obj a _ hx
    refine ⟨a, us, u, rfl, rfl, eh, by rw [← rs.length]; exact hz, ?_⟩
    exact l.ok _ _ _ _ _ ((st1.trans st2).trans (A2.stpW hx)) (A2.write (g' := .lst (xs ++ [v])) hx ⟨_, upd_same, rs.append (.cons ru .nil)⟩) .non q2
  · exact q2.elim
theorem dg_sub (ho : DE X W0 o to) (hi : DE X W0 i ti) (ha : ∀ v, assign (.Subscript o i pos) X.env v = (do
      let ov ← holding [v] (eval o X.env)
      let iv ← holding [v, ov] (eval i X.env)
      standAt pos
      holding [v, ov, iv] (setItem ov iv v)
      release [v, ov, iv] []) := by intro _; rfl) : DG X (.Subscript o i pos) (gSubL to ti) := PG.imp (pg_sub ho hi set_list ha) fun v σ H Q q => by
  obtain ⟨F, s, G, d, QD, A, S, r, t, l⟩ := q
  refine ⟨F, s, G, _, noX, A, S, t, ⟨fun F1 H1 d1 G1 x st1 A1 r1 q1 => ?_, fun _ _ _ _ _ _ _ _ _ _ _ z => z⟩⟩
  refine ⟨F1, s, G1, _, noX, A1, S.mono st1.le, q1, ⟨fun F2 H2 d2 G2 y st2 A2 r2 q2 => ?_, fun _ _ _ _ _ _ _ _ _ _ _ z => z⟩⟩
  obtain ⟨a, xs, k, j, rfl, rfl, hx, hj, q2⟩ := q2
  cases r1; cases r2
  obtain ⟨_, us, eh, rs⟩ := A2.obj a _ hx
  have st := st1.trans st2
  refine ⟨a, us, k, j, rfl, rfl, eh, by rw [← rs.length]; exact hj, ?_⟩
  exact l _ _ _ _ _ (st.trans (A2.stpW hx)) (A2.write (g' := .lst (xs.set j d)) hx ⟨_, upd_same, rs.set (r.mono st.le) j⟩) (S.mono st.le) q2
end
section
variable {X : Cx} {W : WX} {o e i : Expr} {to te ti : TDE} {ta : TDA} {apos pos : Pos}
theorem de_extend (ho : DE X W o to) (ha : DA X W [e] ta) (hbase : attributeBase o "extend" X.env (eval o X.env) = eval o X.env := by rfl)
    (hfew : ((backTo pos (starEach [e] X.env)).all (fun x => !x.1) && (backToKw pos (keywordEach [] X.env)).all (fun x => x.1.isSome)
      && decide ([e].length + ([] : List Keyword).length + (if ([] : List Keyword).isEmpty then 0 else 1) < 30)) = true := by rfl)
    (hline : (apos.endLine == pos.line) = true := by rfl) (hs : starEach [e] X.env = (false, eval e X.env) :: starEach [] X.env := by rfl) (hplain : (backTo pos (starEach [] X.env)).any (·.1) = false := by rfl) :
    DE X W (.Call (.Attribute o "extend" apos) [e] [] pos) (dExtend to ta) := PE.imp (pe_bm PySem.F.plainAttrs_list PySem.F.slot_list_extend PySem.F.type_list_extend mt_extend ho ha hbase hfew hline hs hplain) fun σ H Q q => by
  obtain ⟨F, s, G, QD, ED, A, S, t, l⟩ := q
  refine ⟨F, s, G, _, ED, A, S, t, ⟨fun F1 H1 d1 G1 x st1 A1 r1 q1 => ?_, l.ex⟩⟩
  obtain ⟨a, xs0, rfl, h0, q1⟩ := q1
  cases r1
  refine ⟨ty_list A1 h0, F1, s, G1, _, ED, A1, S.mono st1.le, q1, ⟨fun F2 H2 ds G2 vs st2 A2 r2 q2 => ?_, (l.mono st1).ex⟩⟩
  split at q2
  · rename_i v
    obtain ⟨u, rfl, ru⟩ := reps1 r2
    obtain ⟨xs, ys, hx, rfl, hz, q2⟩ := q2
    obtain ⟨_, us, eh, rs⟩ := A2.obj a _ hx
    cases ru with
    | lst h1 ru =>
      refine ⟨a, _, us, _, rfl, rfl, eh, A2.lstH h1, by rw [← rs.length, ← ru.length]; exact hz, ?_⟩
      exact l.ok _ _ _ _ _ ((st1.trans st2).trans (A2.stpW hx)) (A2.write (g' := .lst (xs ++ ys)) hx ⟨_, upd_same, rs.append ru⟩) .non q2
  · exact q2.elim
end
/-! ### texts -/
def dJoin (to : TDE) (ta : TDA) : TDE := fun s G Q E => to s G (fun d G1 => match d with
  | .str a => ta s G1 (fun vs G2 => ∃ ys : List Str, (vs = [.lst (ys.map D.str)] ∨ vs = [.tup (ys.map D.str)]) ∧ (ys.map (·.length)).sum + ys.length * a.length ≤ 16777216 ∧ Q (.str (Txt.join a ys)) G2) E
  | _ => False) E
def dSplit (to : TDE) (ta : TDA) : TDE := fun s G Q E => to s G (fun d G1 => match d with
  | .str a => ta s G1 (fun vs G2 => ∃ b, vs = [.str b] ∧ (b.length == 0) = false ∧ a.length + 2 ≤ sizeLine ∧ Q (.lst ((Txt.split a b).map D.str)) G2) E
  | _ => False) E
section
variable {X : Cx} {W : WX} {o e i : Expr} {to te ti : TDE} {ta : TDA} {apos pos : Pos}
theorem de_join (ho : DE X W o to) (ha : DA X W [e] ta) (hbase : attributeBase o "join" X.env (eval o X.env) = eval o X.env := by rfl)
    (hfew : ((backTo pos (starEach [e] X.env)).all (fun x => !x.1) && (backToKw pos (keywordEach [] X.env)).all (fun x => x.1.isSome)
      && decide ([e].length + ([] : List Keyword).length + (if ([] : List Keyword).isEmpty then 0 else 1) < 30)) = true := by rfl)
    (hline : (apos.endLine == pos.line) = true := by rfl) (hs : starEach [e] X.env = (false, eval e X.env) :: starEach [] X.env := by rfl) (hplain : (backTo pos (starEach [] X.env)).any (·.1) = false := by rfl) :
    DE X W (.Call (.Attribute o "join" apos) [e] [] pos) (dJoin to ta) := PE.imp (pe_bm PySem.F.plainAttrs_str PySem.F.slot_str_join PySem.F.type_str_join mt_join ho ha hbase hfew hline hs hplain) fun σ H Q q => by
  obtain ⟨F, s, G, QD, ED, A, S, t, l⟩ := q
  refine ⟨F, s, G, _, ED, A, S, t, ⟨fun F1 H1 d1 G1 x st1 A1 r1 q1 => ?_, l.ex⟩⟩
  split at q1
  · cases r1
    refine ⟨rfl, F1, s, G1, _, ED, A1, S.mono st1.le, q1, ⟨fun F2 H2 ds G2 vs st2 A2 r2 q2 => ?_, (l.mono st1).ex⟩⟩
    obtain ⟨ys, hv, hz, q2⟩ := q2
    have fin := l.ok F2 H2 _ G2 _ (st1.trans st2) A2 (.str _) q2
    rcases hv with rfl | rfl
    · obtain ⟨u, rfl, ru⟩ := reps1 r2
      cases ru with
      | lst h1 rs => exact ⟨_, _, ys, rfl, rfl, .inl (by rw [← rs.strs]; exact A2.sqL h1), hz, fin⟩
    · obtain ⟨u, rfl, ru⟩ := reps1 r2
      cases ru with
      | tup h1 rs => exact ⟨_, _, ys, rfl, rfl, .inr (by rw [← rs.strs]; exact A2.sqT h1), hz, fin⟩
  · exact q1.elim
theorem de_split (ho : DE X W o to) (ha : DA X W [e] ta) (hbase : attributeBase o "split" X.env (eval o X.env) = eval o X.env := by rfl)
    (hfew : ((backTo pos (starEach [e] X.env)).all (fun x => !x.1) && (backToKw pos (keywordEach [] X.env)).all (fun x => x.1.isSome)
      && decide ([e].length + ([] : List Keyword).length + (if ([] : List Keyword).isEmpty then 0 else 1) < 30)) = true := by rfl)
    (hline : (apos.endLine == pos.line) = true := by rfl) (hs : starEach [e] X.env = (false, eval e X.env) :: starEach [] X.env := by rfl) (hplain : (backTo pos (starEach [] X.env)).any (·.1) = false := by rfl) :
    DE X W (.Call (.Attribute o "split" apos) [e] [] pos) (dSplit to ta) := PE.imp (pe_bm PySem.F.plainAttrs_str PySem.F.slot_str_split PySem.F.type_str_split mt_split ho ha hbase hfew hline hs hplain) fun σ H Q q => by
  obtain ⟨F, s, G, QD, ED, A, S, t, l⟩ := q
  refine ⟨F, s, G, _, ED, A, S, t, ⟨fun F1 H1 d1 G1 x st1 A1 r1 q1 => ?_, l.ex⟩⟩
  split at q1
  · cases r1
    refine ⟨rfl, F1, s, G1, _, ED, A1, S.mono st1.le, q1, ⟨fun F2 H2 ds G2 vs st2 A2 r2 q2 => ?_, (l.mono st1).ex⟩⟩
    obtain ⟨b, rfl, hb, hz, q2⟩ := q2
    obtain ⟨u, rfl, ru⟩ := reps1 r2
    cases ru
    refine ⟨_, b, rfl, rfl, hb, hz, fun p hp => ?_⟩
    exact l.ok _ _ _ G2 _ ((st1.trans st2).trans (A2.stpF hp)) (A2.laidF hp trivial) (.lst upd_same reps_strs) q2
  · exact q1.elim
end
/-! ### powers, divmod -/
def powR : R2D := fun x y G Q => match x, y with
  | .int i, .int j => CPow i j ∧ Q (.int (i ^ j.toNat)) G
  | _, _ => False
def divmodR : RCD := fun ds G Q => match ds with
  | [.int i, .int j] => CDivP i j ∧ Q (.tup [.int (i / j), .int (i % j)]) G
  | _ => False
section
variable {X : Cx} {W : WX} {a b : Expr} {ta tb : TDE} {pos : Pos}
theorem de_pow (ha : DE X W a ta) (hb : DE X W b tb) : DE X W (.BinOp a .Pow b pos) (dOp powR ta tb) := de_op op_pow (fun x y H Q q => by
  obtain ⟨F, G, d1, d2, QD, A, r1, r2, t, l⟩ := q
  unfold powR at t
  split at t
  · cases r1; cases r2; exact ⟨_, _, rfl, rfl, t.1, l F H _ G _ (.refl F H G) A (.int _) t.2⟩
  · exact t.elim) ha hb
theorem divmod_okD : CallR X (.builtin "divmod") (liftC X.K divmodR) := by
  intro pins s σ H xs us Q I r h
  refine call_divmodW pins s σ H xs us Q I r ?_
  obtain ⟨F, G, ds, QD, A, rs, t, l⟩ := h
  unfold divmodR at t
  split at t
  · obtain ⟨v, w, rfl, r1, r2⟩ := reps2 rs
    cases r1; cases r2
    refine ⟨_, _, rfl, t.1, fun p hp => l _ _ _ G _ (A.stpF hp) (A.laidF hp trivial) (.tup (.inl (.inl upd_same)) (.cons (.int _) (.cons (.int _) .nil))) t.2⟩
  · exact t.elim
end
end DL
end
section
set_option maxRecDepth 100000
/-! Own classes: len(o), str(o), bool(o), x in o, o[k]. -/
namespace DL
open PySem PySem.Spec PyProof.Rows L2
/-- a special method of an own class -/
structure KnowsS (P : Program) (w : World) (K : PySem.W.Frag) (mg : Str → Option Value) (base : Heap) (C : Addr) (m : Str) (k : Nat) (sp : SpD) : Prop where
  ex : ∃ f fd ps, PySem.W.findIn K (.ref C) m = some (some (.ref f)) ∧ PySem.W.isFn K (.ref f) = true ∧ FnD P w K mg base k f fd ps sp ∧ Binds K fd ps []
section
variable {X : Cx} {W : WX} {k : Nat} {C : Addr} {m : Str} {sp : SpD}
theorem env_at {pins : List (Addr × Obj)} {σ : L2.St} {H : Hp} {s : Shared} {A : Around} (I : Inv X pins σ H s) (hf : A.frames = X.A.frames) : Env0 X.prog X.w X.K X.mg X.base A X.stack s H := by
  have e := I.env0
  exact ⟨by rw [hf]; exact e.frames, e.mod, e.bs, e.bsz, e.funs, e.frf, e.hok, e.bare⟩
/-- a def called from within a built-in -/
theorem run_at {A : Around} {f : Addr} {fd : FuncData} {ps : List Str} {pins : List (Addr × Obj)} {σ : L2.St} {H : Hp} {s : Shared} {Q : VK} {us : List Value} {vs : List V} (F : FnD X.prog X.w X.K X.mg X.base k f fd ps sp) (hr : Room k A) (hA : A.frames = X.A.frames) (hb : Binds X.K fd ps []) (tk : Takes X W)
    (I : Inv X pins σ H s) (r : Vals vs us) (h : liftSp X.K sp vs H Q (WE W σ)) : wpAny (model X.prog X.w) A (call (.ref f) us) (EP X pins σ Q) X.xe s := by
  have hl : us.length = ps.length := by rw [← r.length]; exact F.len _ _ _ _ h
  refine wpAny_call (codeAny_mono (F.run A X.stack s H ⟨us, []⟩ us vs Q (WE W σ) hr (env_at I hA) (by
    have := hb s us I.kIn (by simpa using hl)
    simpa using this) r h) fun r s' hq => ?_)
  cases r with
  | error e => exact passAt tk σ pins H s e s' I hq
  | ok fl =>
    cases fl with
    | ret u => exact I.after hq
    | next => exact False.elim hq
    | brk => exact False.elim hq
    | cont => exact False.elim hq
theorem inst_of {pins : List (Addr × Obj)} {σ : L2.St} {H : Hp} {s : Shared} {a dx : Addr} {fs : List (Str × V)} (I : Inv X pins σ H s) (h : H a = some (.ins C dx fs)) : ∃ ox od, PySem.W.InstAt s.heap a ox C od := by
  obtain ⟨mA, J, _⟩ := ins_get I.hok h
  obtain ⟨od, J, _⟩ := J.look
  exact ⟨_, od, J⟩
end
theorem takesF {X : Cx} : Takes X (fun _ _ _ _ => False) := L2.takes0
/-- a promise at the value of one thing, without exceptions -/
def spNo (sp : SpD) (ds : List D) (G : GD) (Q : KD) : Prop := sp ds G Q fun _ _ _ => False
theorem spNo_lift {K : PySem.W.Frag} {F H : Hp} {G : GD} {ds : List D} {vs : List V} {sp : SpD} {QD : KD} {Q : VK} {σ : L2.St} (A : AbsH K F H G) (r : Reps K F ds vs) (q : spNo sp ds G QD) (l : ∀ F' H' d G' v, Stp F H G F' H' G' → AbsH K F' H' G' → Rep K F' d v → QD d G' → Q v H') : liftSp K sp vs H Q (WE (fun _ _ _ _ => False) σ) :=
  ⟨F, G, ds, QD, _, A, r, q, l, fun _ _ _ _ _ _ _ _ _ z => z⟩
/-- len(o) -/
def ownLenR (C : Addr) (sp : SpD) : RCD := fun ds G Q => match ds with
  | [d] => ∃ fs, insOf d G = some (C, fs) ∧ spNo sp [d] G fun v G' => ∃ n : Int, v = .int n ∧ 0 ≤ n ∧ n < 2 ^ 63 ∧ Q v G'
  | _ => False
def ownStrR (C : Addr) (sp : SpD) : RCD := fun ds G Q => match ds with
  | [d] => ∃ fs, insOf d G = some (C, fs) ∧ spNo sp [d] G fun v G' => ∃ z, v = .str z ∧ Q v G'
  | _ => False
def ownBoolR (C : Addr) (sp : SpD) : RCD := fun ds G Q => match ds with
  | [d] => ∃ fs, insOf d G = some (C, fs) ∧ spNo sp [d] G fun v G' => ∃ z, v = .bl z ∧ Q v G'
  | _ => False
section
variable {X : Cx} {k : Nat} {C : Addr} {sp : SpD}
theorem frames1 {A : Around} : A.in1.frames = A.frames := rfl
theorem room1 {k : Nat} {A : Around} (r : Room (k + 1) A) : Room k A.in1 := r.in1
theorem call_ownLen (kn : KnowsS X.prog X.w X.K X.mg X.base C "__len__" k sp) (hr : Room (k + 1) X.A) : CallR X (.builtin "len") (liftC X.K (ownLenR C sp)) := by
  obtain ⟨f, fd, ps, hs, hf, F, hb⟩ := kn.ex
  intro pins s σ H xs us Q I r h
  obtain ⟨F0, G, ds, QD, A, rs, t, l⟩ := h
  unfold ownLenR at t
  split at t
  · obtain ⟨v, rfl, r1⟩ := reps1 rs
    obtain ⟨fs, hi, t⟩ := t
    obtain ⟨a, dx, fs', rfl, ea, _⟩ := rep_ins A r1 hi
    obtain rfl := Vals.ref1 r
    obtain ⟨ox, od, J⟩ := inst_of I ea
    obtain ⟨mm, hF⟩ := I.fr
    refine PySem.W.len_K hF I.ok.mod.kin J hs hf (wpAny_mono (run_at (vs := [.ref a]) (us := [.ref a]) (W := fun _ _ _ _ => False) F hr.in1 rfl hb takesF I (.cons rfl .nil) (spNo_lift A (.cons r1 .nil) t fun F' H' d G' v st A' r' q' => (show (∃ n : Int, v = .int n ∧ 0 ≤ n ∧ n < 2 ^ 63 ∧ Q v H') from ?_))) (fun u s' hq => ?_) fun _ _ z => z)
    · obtain ⟨n, rfl, h0, h1, q'⟩ := q'
      cases r'
      exact ⟨n, rfl, h0, h1, l F' H' _ G' _ st A' (.int _) q'⟩
    · obtain ⟨v, H', I', rv, n, rfl, h0, h1, q'⟩ := hq
      obtain ⟨t0, rfl⟩ := rv
      exact ⟨⟨h0, h1⟩, .int n, H', I'.tok _, ⟨_, rfl⟩, q'⟩
  · exact t.elim
theorem call_ownStr (kn : KnowsS X.prog X.w X.K X.mg X.base C "__str__" k sp) (hr : Room (k + 2) X.A) : CallR X (.type "str") (liftC X.K (ownStrR C sp)) := by
  obtain ⟨f, fd, ps, hs, hf, F, hb⟩ := kn.ex
  intro pins s σ H xs us Q I r h
  obtain ⟨F0, G, ds, QD, A, rs, t, l⟩ := h
  unfold ownStrR at t
  split at t
  · obtain ⟨v, rfl, r1⟩ := reps1 rs
    obtain ⟨fs, hi, t⟩ := t
    obtain ⟨a, dx, fs', rfl, ea, _⟩ := rep_ins A r1 hi
    obtain rfl := Vals.ref1 r
    obtain ⟨ox, od, J⟩ := inst_of I ea
    have hr2 : Room k X.A.in1.in1 := (hr.in1).in1
    refine PySem.W.kso_call hr2.units0 I.kIn J hs hf (wpAny_mono (run_at (vs := [.ref a]) (us := [.ref a]) (W := fun _ _ _ _ => False) F hr2 rfl hb takesF I (.cons rfl .nil) (spNo_lift A (.cons r1 .nil) t fun F' H' d G' v st A' r' q' => (show (∃ z, v = .str z ∧ Q v H') from ?_))) (fun u s' hq => ?_) fun _ _ z => z)
    · obtain ⟨n, rfl, q'⟩ := q'
      cases r'
      exact ⟨n, rfl, l F' H' _ G' _ st A' (.str _) q'⟩
    · obtain ⟨v, H', I', rv, z, rfl, q'⟩ := hq
      obtain ⟨t0, rfl⟩ := rv
      exact ⟨.str z, H', I', ⟨_, rfl⟩, q'⟩
  · exact t.elim
theorem call_ownBool (kn : KnowsS X.prog X.w X.K X.mg X.base C "__bool__" k sp) (hr : Room (k + 2) X.A) : CallR X (.type "bool") (liftC X.K (ownBoolR C sp)) := by
  obtain ⟨f, fd, ps, hs, hf, F, hb⟩ := kn.ex
  intro pins s σ H xs us Q I r h
  obtain ⟨F0, G, ds, QD, A, rs, t, l⟩ := h
  unfold ownBoolR at t
  split at t
  · obtain ⟨v, rfl, r1⟩ := reps1 rs
    obtain ⟨fs, hi, t⟩ := t
    obtain ⟨a, dx, fs', rfl, ea, _⟩ := rep_ins A r1 hi
    obtain rfl := Vals.ref1 r
    obtain ⟨ox, od, J⟩ := inst_of I ea
    obtain ⟨mm, hF⟩ := I.fr
    have hr2 : Room k X.A.in1.in1 := (hr.in1).in1
    refine callType_codes (T := "bool") (Bi := Builtin.«object.__init__») (Q₁ := fun r s₁ => ∃ y, r = .bool y ∧ EP X pins σ Q r s₁) PySem.F.called_bool (PySem.F.typeCall_bool_1 _) PySem.F.entry_object_init ?_ ?_
    · refine codeAny_of_tree ?_
      show wpAny _ X.A.in1.in1 (do checkBuiltinCall "bool.__new__" ⟨[.type "bool", .ref a], []⟩; again (.builtin "bool.__new__" ⟨[.type "bool", .ref a], []⟩)) _ _ s
      refine wpAny_bind (wpAny_of_eq (PySem.F.newCall_bool_1 _) (wpAny_pure ⟨plainId_quiet (by decide +kernel) _, codeAny_builtin PySem.F.entry_bool_new ?_⟩))
      rw [Around.under_plainId (by decide +kernel) _]
      unfold Builtin.«bool.__new__»
      dsimp only
      refine wpAny_bind (m := isType _) (wpAny_pure ?_)
      simp only [Bool.not_true, Bool.false_eq_true, if_false]
      refine wpAny_bind (wpAny_of_eq PySem.F.conv_sub_bool ?_)
      simp only [Bool.not_true, Bool.false_eq_true, if_false]
      refine wpAny_bind (m := someArgs _ _ _ _) (wpAny_pure ?_)
      dsimp only
      refine wpAny_bind (PySem.W.truthy_K hF I.ok.mod.kin J hs hf (wpAny_mono (run_at (vs := [.ref a]) (us := [.ref a]) (W := fun _ _ _ _ => False) F hr2 rfl hb takesF I (.cons rfl .nil) (spNo_lift A (.cons r1 .nil) t fun F' H' d G' v st A' r' q' => (show (∃ z, v = .bl z ∧ Q v H') from ?_))) (fun u s' hq => ?_) fun _ _ z => z))
      · obtain ⟨n, rfl, q'⟩ := q'
        cases r'
        exact ⟨n, rfl, l F' H' _ G' _ st A' (.bl _) q'⟩
      · obtain ⟨v, H', I', rv, z, rfl, q'⟩ := hq
        cases rv
        exact wpAny_pure ⟨z, rfl, .bl z, H', I', rfl, q'⟩
    · rintro obj s₁ ⟨y, rfl, hq⟩
      exact ⟨PySem.typeIs_bool _ _, PySem.F.args_object_init_2 _ _, object_init_meets PySem.F.called_bool.init.lookup PySem.F.called_bool.made (by decide) X.prog X.w X.A.in1 _ s₁ ⟨PySem.typeIs_bool _ _, rfl, hq⟩⟩
  · exact t.elim
/-- x in o -/
def ownInR (C : Addr) (neg : Bool) (sp : SpD) : R2D := fun x y G Q => ∃ fs, insOf y G = some (C, fs) ∧ spNo sp [y, x] G fun v G' => ∃ z, v = .bl z ∧ Q (.bl (if neg = true then !z else z)) G'
theorem own_in {A0 : Around} {pins : List (Addr × Obj)} {σ : L2.St} {H : Hp} {s : Shared} {a dx : Addr} {fs' : List (Str × V)} {x : Value} {Q : Bool → Shared → Prop} {f : Addr} (I : Inv X pins σ H s) (ea : H a = some (.ins C dx fs')) (hs : PySem.W.findIn X.K (.ref C) "__contains__" = some (some (.ref f))) (hf : PySem.W.isFn X.K (.ref f) = true)
    (h : wpAny (model X.prog X.w) A0 (call (.ref f) [.ref a, x]) (fun u s' => ∃ b, u = .bool b ∧ Q b s') X.xe s) : wpAny (model X.prog X.w) A0 (contains (.ref a) x) Q X.xe s := by
  obtain ⟨ox, od, J⟩ := inst_of I ea
  unfold contains
  refine wpAny_holding ?_
  rw [stdlibNamesSay?_ref]
  refine wpAny_bind (wpAny_bind (J.type.here ((PySem.W.looks_findIn I.kIn hs).here ?_)))
  show wpAny _ _ (if (some (Value.ref f) == some Value.none) = true then _ else _) _ _ _
  rw [if_neg (by simp)]
  refine wpAny_bind ?_
  simp only [callSpecialUnlessNone?]
  refine wpAny_bind (wpAny_bind (J.type.here ((PySem.W.looks_findIn I.kIn hs).here ?_)))
  dsimp only
  refine wpAny_holding (wpAny_bind ((PySem.W.bind_fn I.kIn _ (beq_iff_eq.mp hf)).here ?_))
  dsimp only
  rw [if_neg (by simp)]
  refine wpAny_bind (wpAny_mono h (fun u s' hq => ?_) fun _ _ z => z)
  obtain ⟨b, rfl, hq⟩ := hq
  exact wpAny_pure (wpAny_truthy_bool hq)
theorem ownIn_ok (kn : KnowsS X.prog X.w X.K X.mg X.base C "__contains__" k sp) (hr : Room k X.A) : OpR X (compareOp .In) (lift2 X.K (ownInR C false sp)) := by
  obtain ⟨f, fd, ps, hs, hf, F, hb⟩ := kn.ex
  intro pins s σ H x y v u Q I rx ry h
  obtain ⟨F0, G, d1, d2, QD, A, r1, r2, ⟨fs, hi, t⟩, l⟩ := h
  obtain ⟨a, dx, fs', rfl, ea, _⟩ := rep_ins A r2 hi
  obtain rfl : u = Value.ref a := ry
  show wpAny _ _ (do let b ← contains (.ref a) v; pure (Value.bool b)) _ _ _
  refine wpAny_bind (own_in I ea hs hf (wpAny_mono (run_at (vs := [.ref a, x]) (us := [.ref a, v]) (W := fun _ _ _ _ => False) F hr rfl hb takesF I (.cons rfl (.cons rx .nil)) (spNo_lift A (.cons r2 (.cons r1 .nil)) t fun F' H' d G' v st A' r' q' => (show (∃ z, v = .bl z ∧ Q (.bl z) H') from ?_))) (fun u s' hq => ?_) fun _ _ z => z))
  · obtain ⟨n, rfl, q'⟩ := q'
    cases r'
    exact ⟨n, rfl, l F' H' _ G' _ st A' (.bl _) (by simpa using q')⟩
  · obtain ⟨v, H', I', rv, z, rfl, q'⟩ := hq
    cases rv
    exact ⟨z, rfl, wpAny_pure ⟨.bl z, H', I', rfl, q'⟩⟩
theorem ownNotIn_ok (kn : KnowsS X.prog X.w X.K X.mg X.base C "__contains__" k sp) (hr : Room k X.A) : OpR X (compareOp .NotIn) (lift2 X.K (ownInR C true sp)) := by
  obtain ⟨f, fd, ps, hs, hf, F, hb⟩ := kn.ex
  intro pins s σ H x y v u Q I rx ry h
  obtain ⟨F0, G, d1, d2, QD, A, r1, r2, ⟨fs, hi, t⟩, l⟩ := h
  obtain ⟨a, dx, fs', rfl, ea, _⟩ := rep_ins A r2 hi
  obtain rfl : u = Value.ref a := ry
  show wpAny _ _ (do let b ← contains (.ref a) v; pure (Value.bool (!b))) _ _ _
  refine wpAny_bind (own_in I ea hs hf (wpAny_mono (run_at (vs := [.ref a, x]) (us := [.ref a, v]) (W := fun _ _ _ _ => False) F hr rfl hb takesF I (.cons rfl (.cons rx .nil)) (spNo_lift A (.cons r2 (.cons r1 .nil)) t fun F' H' d G' v st A' r' q' => (show (∃ z, v = .bl z ∧ Q (.bl (!z)) H') from ?_))) (fun u s' hq => ?_) fun _ _ z => z))
  · obtain ⟨n, rfl, q'⟩ := q'
    cases r'
    exact ⟨n, rfl, l F' H' _ G' _ st A' (.bl _) (by simpa using q')⟩
  · obtain ⟨v, H', I', rv, z, rfl, q'⟩ := hq
    cases rv
    exact ⟨z, rfl, wpAny_pure ⟨.bl (!z), H', I', rfl, q'⟩⟩
end
end DL
end
section
set_option maxRecDepth 100000
/-! Own exception classes over a built-in one: made by an own __init__ that keeps one thing, or none. -/
namespace DL
open PySem PySem.Spec PyProof.Rows L2
/-- what the written part says of such a class -/
structure ExcK (K : PySem.W.Frag) (C : Addr) (B newId initId : String) (bmB : List Value) : Prop where
  base : ExcBaseFacts B newId initId bmB
  store : StoreFacts B bmB "object.__setattr__" "object"
  init : PySem.W.excInitIn K C bmB newId = true
  over : PySem.W.excOver K C bmB = true
  hd : ((PySem.W.clsIn K C).any fun cd => cd.hasDict) = true
  sa : PySem.W.findIn K (.ref C) "__setattr__" = some (some (.builtin "object.__setattr__"))
  exC : PySem.W.subIn K (.ref C) (.type "BaseException") = some true
  tyC : PySem.W.typeIn K (.ref C) = some (.type "type")
  kC : PySem.W.keepIn K (.ref C) = true
section
open Builtin Builtin.ObjectAttr
variable {prog : Program} {w : World} {A : Around} {E : Value → Shared → Prop} {R : Result → Shared → Prop} {hp : Heap} {g : Array GenState} {d : Drawn} {t : Nat} {os : OsState}
theorem osa_first {K : PySem.W.Frag} {B newId initId : String} {bmB : List Value} {name : Str} {tk : Tok} {v : Value} {x C : Addr} {fv : Array Value} (T : ExcK K C B newId initId bmB)
    (X : K.In hp) (hx : hp.get? x = some { cls := .ref C, data := .fields fv }) (ha : PySem.W.takerIn K C name = some none)
    (hq : ∀ h' tk' dx, (∀ b o, b ≠ x → hp.get? b = some o → h'.get? b = some o) → hp.objs.size ≤ dx → dx ≠ x → h'.get? x = some { cls := .ref C, dict := some dx, data := .fields fv } →
      h'.Ns1 dx (fun y => if y = name then some v else none) → R (.ok (.ret .none)) ⟨h', g, d, tk', os⟩) :
    codeAny (model prog w) A (.call (.builtin "object.__setattr__") ⟨[.ref x, .str name tk, v], []⟩) R ⟨hp, g, d, t, os⟩ := by
  have I : PySem.W.InstAt hp x { cls := .ref C, data := .fields fv } C none := ⟨hx, rfl, rfl, trivial⟩
  have hxs : x ≠ hp.objs.size := Nat.ne_of_lt (Heap.lt_size hx)
  obtain ⟨cd, hcd, hh⟩ := PySem.W.any_some T.hd
  have hcls : PySem.W.Looks (model prog w) hp (classData C) cd := PySem.W.looks_clsIn X hcd
  refine PySem.W.osa_openX (s := ⟨hp, g, d, t, os⟩) T.store X I T.over ha fun b => ?_
  show wpAny _ _ (storeInOwnDict (.ref x) (.ref C) (.str name tk) name v b) _ _ _
  obtain ⟨nm, bs, mro, ns, qn, hdd, sn, sb, ab, col, del⟩ := cd
  dsimp only at hh
  subst hh
  unfold storeInOwnDict ownDictForStores
  repeat (first | with_reducible refine PySem.HandSPX.store_in_new ?_ ?_ | with_reducible refine wpAny_loadPart_at hx ?_ | with_reducible refine hcls.at ?_ | wp_step)
  · exact ⟨_, #[], _, (Heap.get?_update_ne _ _ _ _ hxs.symm).trans (Heap.get?_push_at rfl rfl), rfl, fun e he => absurd he (by simp), fun _ => rfl⟩
  · intro h' tk' hn' hs
    have hx₁ : (hp.push { cls := .type "dict", data := .dict #[] }).get? x = some { cls := .ref C, data := .fields fv } := Heap.get?_push_of_some _ hx
    refine hq h' tk' hp.objs.size (fun b o hb ho => ?_) (Nat.le_refl _) hxs.symm ?_ hn'
    · exact (hs.2 b (Nat.ne_of_lt (Heap.lt_size ho))).trans ((Heap.get?_update_ne _ _ _ _ hb).trans (Heap.get?_push_of_some _ ho))
    · exact (hs.2 x hxs).trans (Heap.get?_update_self _ hx₁ rfl)
end

section
variable {X : Cx} {pins : List (Addr × Obj)} {σ : L2.St} {H : Hp} {s : Shared} {a C dx : Addr} {f : Str} {y : V} {u : Value} {Q : Unit → Shared → Prop} {E : Value → Shared → Prop} {A : Around} {B newId initId : String} {bmB : List Value}
/-- self.f = y, the first one -/
theorem ost_first (T : ExcK X.K C B newId initId bmB) (I : Inv X pins σ H s) (e : H a = some (exo a C none)) (hno : PySem.W.takerIn X.K C f = some none) (ry : RelV y u)
    (h : ∀ dx s', H dx = none → dx ≠ a → Inv X pins σ (upd (upd H dx (exd dx [(f, y)])) a (exo a C (some dx))) s' → Q () s') : wpAny (model X.prog X.w) A (setAttr (.ref a) f u) Q E s := by
  obtain ⟨t1, ho⟩ := exo_at I.hok e
  obtain ⟨hp, g, d, t, os⟩ := s
  refine PySem.W.set_plain I.kIn (ox := { cls := .ref C, dict := none, data := .fields #[.ref t1, .none, .none, .none, .bool false, .none] }) (od := none) ⟨ho, rfl, rfl, trivial⟩ T.sa ?_
  refine osa_first T I.kIn ho hno (fun h' tk' dx k dn dne hx hn => ?_)
  have hnd : H dx = none := I.hok.fresh dn
  have nd : ∀ {b : Addr} {o : Obj}, hp.get? b = some o → b ≠ dx := fun {b o} q => Nat.ne_of_lt (Nat.lt_of_lt_of_le (Heap.lt_size q) dn)
  have na : ∀ {b : Addr}, H b = none → b ≠ a := fun {b} n z => by
    rw [z, e] at n
    cases n
  have U : Un X.fs [] H (upd (upd H dx (exd dx [(f, y)])) a (exo a C (some dx))) hp h' := {
    keep := fun b o q n _ _ => k b o (na n) q
    slot := fun b o q n _ _ => ⟨o.slots, k b o (na n) q⟩
    free := fun b o q n _ => by rw [upd_ne (na n), upd_ne (nd q)]; exact n
    there := fun b o q _ => by
      by_cases hb : b = a
      · exact ⟨_, by rw [hb]; exact hx⟩
      · exact ⟨o, k b o hb q⟩
    tups := fun b xs q => by rw [upd_ne (at_ne e q exo_tup), upd_ne (ne_of_none q hnd)]; exact q
    frzs := fun b o v q => by rw [upd_ne (at_ne e q exo_frz), upd_ne (ne_of_none q hnd)]; exact q
    tbls := fun b ps q => ⟨#[], by rw [upd_ne (at_ne e q exo_tbl), upd_ne (ne_of_none q hnd), q]; simp⟩ }
  refine h dx _ hnd dne (I.un (t' := tk') U fun b o q => ?_)
  by_cases hb : b = a
  · subst hb
    rw [upd_same] at q
    cases q
    exact exo_ok hx
  · rw [upd_ne hb] at q
    by_cases hd : b = dx
    · subst hd
      rw [upd_same] at q
      cases q
      exact exd_ok hn (relO_put (fs := []) ry fun g => True.intro)
    · rw [upd_ne hd] at q
      exact (I.hok b o q).stay (fun c v hc z => k c v (by
          rcases hc with hc | hc
          · rw [hc]
            exact hb
          · exact at_ne e hc exo_own) z)
        (fun c hc => by rw [upd_ne (at_ne e hc exo_own), upd_ne (ne_of_none hc hnd)]; exact hc) (fun c xs hc => by rw [upd_ne (at_ne e hc exo_tup), upd_ne (ne_of_none hc hnd)]; exact hc)
end
/-- self.f = e of an exception that keeps nothing yet -/
def tOst1 (K : PySem.W.Frag) (C : Addr) (f : Str) (to te : TE) : TS := fun D σ H => te σ H fun y H1 => to σ H1 fun x H2 => ∃ a : Addr, x = .ref a ∧ H2 a = some (exo a C none) ∧ ∀ dx, H2 dx = none → dx ≠ a → D.nx σ (upd (upd H2 dx (exd dx [(f, y)])) a (exo a C (some dx)))
theorem ps_ost1 {X : Cx} {C : Addr} {B newId initId : String} {bmB : List Value} {f : Str} {o e : Expr} {to te : TE} {p' pos : Pos} (T : ExcK X.K C B newId initId bmB) (hno : PySem.W.takerIn X.K C f = some none) (ho : PE X o to) (he : PE X e te)
    (hs : swapsWith e (some (.Attribute o f p')) pos.line X.env = pure false := by rfl) : PS X (.Assign [.Attribute o f p'] e pos) (tOst1 X.K C f to te) := by
  refine ⟨fun pins s σ H D I h => ?_⟩
  refine plainObj_wpAny_Assign_Attribute (thn (he.run pins s σ H _ I h) fun v s1 ⟨y, H1, I1, r1, q1⟩ => thn (ho.run pins s1 σ H1 _ I1 q1) fun u s2 ⟨x, H2, I2, r2, a, ex, ea, q⟩ => ?_) hs
  subst ex
  obtain rfl : u = Value.ref a := r2
  exact ost_first T I2 ea hno r1 fun dx s' n ne J => ⟨σ, _, J, q dx n ne⟩
/-- what such an __init__ promises -/
def spI1 (C : Addr) (f : Str) : Sp := fun vs H Q _ => ∃ a v, vs = [.ref a, v] ∧ H a = some (exo a C none) ∧ ∀ dx, H dx = none → dx ≠ a → Q .non (upd (upd H dx (exd dx [(f, v)])) a (exo a C (some dx)))
def spI0 : Sp := fun vs H Q _ => ∃ a, vs = [.ref a] ∧ Q .non H
section
variable {P : Program} {w : World} {K : PySem.W.Frag} {mg : Str → Option Value} {base : Heap} {q : Str} {params : Arguments} {body : List Stmt} {scope : Scope} {fi C : Addr} {fd : FuncData} {B newId initId : String} {bmB : List Value} {f : Str} {p1 p2 p3 p4 : Pos}
/-- def __init__(self, x): self.x = x -/
theorem init1_ok (T : ExcK K C B newId initId bmB) (hno : PySem.W.takerIn K C f = some none) (Fu : FunD K "__init__" q params [.Assign [.Attribute (.Name "self" p1) f p2] (.Name f p3) p4] scope [] [] fi fd) (S : FnScope ["self", f] ["self", f] scope)
    (h1 : Vis scope "self" := by first | exact Or.inl rfl) (h2 : Vis scope f := by first | exact Or.inl rfl) (hd : (f == ("__debug__" : Str)) = false := by decide) (hcd : (f == ("__classdict__" : Str)) = false := by decide) :
    FnOk P w K mg base (L2.CX P w) 1 fi fd ["self", f] (spI1 C f) := by
  refine fun_okV Fu S (fun vs H Q E ⟨a, v, e, _⟩ => by rw [e]; rfl) fun cdv A outer s H vs Q E hr ⟨a, v, e, ea, hq⟩ => ⟨_, pss_one (ps_ost1 (C := C) T hno (pe_var (i := 0) rfl h1) (pe_var (i := 1) rfl h2 hd hcd)), ?_⟩
  subst e
  exact ⟨v, rfl, .ref a, rfl, a, rfl, ea, fun dx n ne => hq dx n ne⟩
/-- def __init__(self): pass -/
theorem init0_ok (Fu : FunD K "__init__" q params [.Pass p1] scope [] [] fi fd) (S : FnScope ["self"] ["self"] scope) : FnOk P w K mg base (L2.CX P w) 1 fi fd ["self"] spI0 := by
  refine fun_okV Fu S (fun vs H Q E ⟨a, e, _⟩ => by rw [e]; rfl) fun cdv A outer s H vs Q E hr ⟨a, e, hq⟩ => ⟨_, pss_one ps_pass, ?_⟩
  exact hq
end

/-! ### made -/
def tMk1 (C : Addr) (f : Str) (ta : TA) : L2.St → Hp → XK → Prop := fun σ H Q => ta σ H fun vs H1 => ∃ v, vs = [v] ∧ ∀ d, H1 d = none → Q (.ref C) (some d) (upd H1 d (.xd [(f, v)]))
section
variable {X : Cx} {C fI : Addr} {fd : FuncData} {B newId initId : String} {bmB : List Value} {f x : Str} {p pos : Pos} {e : Expr} {ta : TA}
/-- C(e) -/
theorem pmk1 (T : ExcK X.K C B newId initId bmB) (iC : PySem.W.findIn X.K (.ref C) "__init__" = some (some (.ref fI))) (tI : PySem.W.isFn X.K (.ref fI) = true) (F1 : FnOk X.prog X.w X.K X.mg X.base (L2.CX X.prog X.w) 1 fI fd ["self", f] (spI1 C f))
    (hr : Room 2 X.A) (hb : Binds X.K fd ["self", f] []) (hg : Gl X x) (hm : X.mg x = some (.ref C)) (ha : PA X [e] ta) (hdb : (x == ("__debug__" : Str)) = false := by decide) (he : starEach [e] X.env = (false, eval e X.env) :: starEach [] X.env := by rfl)
    (hpl : (backTo pos (starEach [] X.env)).any (·.1) = false := by rfl) : PMk X (.Call (.Name x p) [e] [] pos) (tMk1 C f ta) := by
  intro pins s σ H Q I h
  refine wpAny_Call_Name_kw (ld_glob I hg hm ?_ hdb)
  refine PySem.W.callWith_K (h₀ := X.base) I.ok.mod.kin T.kC (thn (ha.run pos pins s σ H _ I h) fun us s1 ⟨vs, H1, I1, r1, v, ev, q1⟩ => ⟨I1.kIn, ?_⟩) he hpl
  subst ev
  obtain ⟨u, eu, ru⟩ := r1.one
  subst eu
  show wpAny _ _ (call (.ref C) [u]) _ _ _
  obtain ⟨nm, N, qn, bs, bm, hdct, sn, sub, ab, col, dd, k0, k1, k2, k3, k5, hC, hT⟩ := PySem.W.excInit_of I1.kIn T.init
  obtain ⟨hp, g, dr, tk, os⟩ := s1
  have hsz : hp.objs.size ≤ hp.objs.size + 1 := Nat.le_succ _
  have hn : H1 (hp.objs.size + 1) = none := I1.hok.fresh hsz
  have kk : ∀ b o, hp.get? b = some o → ((hp.push (PySem.W.kdv_tup [u])).push (PySem.HandSPX.excO C hp.objs.size)).get? b = some o := fun b o e => Heap.get?_push_of_some _ (Heap.get?_push_of_some _ e)
  have hget : ((hp.push (PySem.W.kdv_tup [u])).push (PySem.HandSPX.excO C hp.objs.size)).get? (hp.objs.size + 1) = some (PySem.HandSPX.excO C hp.objs.size) := by heap_get
  have I2 : Inv X pins σ (upd H1 (hp.objs.size + 1) (exo (hp.objs.size + 1) C none)) ⟨(hp.push (PySem.W.kdv_tup [u])).push (PySem.HandSPX.excO C hp.objs.size), g, dr, tk, os⟩ :=
    I1.laid (t' := tk) (a := hp.objs.size + 1) (o := exo (hp.objs.size + 1) C none) (h' := (hp.push (PySem.W.kdv_tup [u])).push (PySem.HandSPX.excO C hp.objs.size)) kk hsz (exo_ok hget)
  obtain ⟨a, ha⟩ : ∃ a, a = hp.objs.size + 1 := ⟨_, rfl⟩
  rw [← ha] at hsz hn hget I2
  have hq : spI1 C f [.ref a, v] (upd H1 a (exo a C none)) (fun w H2 => w = .non ∧ ∃ d, H2 a = some (exo a C (some d)) ∧ H2 d = some (exd d [(f, v)]) ∧ H1 d = none ∧ Q (.ref C) (some d) (upd (L2.del H2 a) d (.xd [(f, v)]))) (fun _ _ _ => False) := by
    refine ⟨a, v, rfl, upd_same, fun dx n ne => ⟨rfl, dx, upd_same, by rw [upd_ne ne, upd_same], ?_, ?_⟩⟩
    · rw [upd_ne ne] at n; exact n
    · rw [upd_ne ne] at n
      have e : upd (L2.del (upd (upd (upd H1 a (exo a C none)) dx (exd dx [(f, v)])) a (exo a C (some dx))) a) dx (.xd [(f, v)]) = upd H1 dx (.xd [(f, v)]) := by
        funext b
        by_cases h1 : b = dx
        · rw [h1, upd_same, upd_same]
        · rw [upd_ne h1, upd_ne h1]
          by_cases h2 : b = a
          · rw [h2, L2.del_same, hn]
          · rw [L2.del_ne h2, upd_ne h2, upd_ne h1, upd_ne h2]
      rw [e]
      exact q1 dx n
  have r2 : Vals [V.ref a, v] [Value.ref a, u] := .cons rfl (.cons ru .nil)
  have hb2 := hb _ [Value.ref a, u] I2.kIn rfl
  refine wpAny_call (PySem.HandSPX.call_own T.base hT hC (PySem.W.looks_findIn I1.kIn iC) (fun self => PySem.W.bind_fn I1.kIn self (beq_iff_eq.mp tI)) (by show 1 ≤ sizeLine; rw [sizeLine_eq]; omega)
    (codeAny_mono (by
      have run := F1.run (X.A.under (.builtin "type.__call__" ⟨.ref C :: [u], []⟩)) X.stack _ _ ⟨Value.ref a :: [u], []⟩ [Value.ref a, u] _ _ (fun _ _ _ => False) (hr.make C [u] []) (I2.env0.make C [u] []) (by simpa using hb2) r2 hq
      rw [← ha]
      exact run) fun r s' hq' => ?_))
  · cases r with
    | error er =>
      obtain ⟨_, _, _, _, _, _, _, _, _, _, _, _, z⟩ := (show L2.CX X.prog X.w X.stack _ _ _ er s' from hq')
      exact z.elim
    | ok fl =>
      cases fl with
      | ret u =>
        obtain ⟨w, H2, os2, bare2, un2, hok2, rv, ew, d, ea, ed, hd1, q2⟩ := hq'
        subst ew
        obtain ⟨h2, g2, d2, t2, os'⟩ := s'
        subst ha
        exact ⟨rv, mk_end (raises_own T.exC T.tyC) I1 hsz kk un2 hok2 os2 bare2 ea ed hd1 q2⟩
      | next => exact False.elim hq'
      | brk => exact False.elim hq'
      | cont => exact False.elim hq'
end

/-- the end of C(): the exception is let go -/
theorem mk_none {X : Cx} {pins : List (Addr × Obj)} {σ : L2.St} {H1 : Hp} {Q : XK} {hp hp2 h2 : Heap} {g1 g2 : Array GenState} {d1 d2 : Drawn} {t1 t2 : Nat} {os1 os2 : OsState} {a C : Addr} (T : Raises X (.ref C)) (I1 : Inv X pins σ H1 ⟨hp, g1, d1, t1, os1⟩)
    (ha : hp.objs.size ≤ a) (k : ∀ b o, hp.get? b = some o → hp2.get? b = some o) (un : Un (frs X.stack) [] (upd H1 a (exo a C none)) (upd H1 a (exo a C none)) hp2 h2) (hok : HOk X.prog X.w (upd H1 a (exo a C none)) h2) (ho : os2 = os1) (hb : AllBare g2)
    (q : Q (.ref C) none H1) : MkP X pins σ Q (.ref a) ⟨h2, g2, d2, t2, os2⟩ := by
  obtain ⟨t0, hoe⟩ := exo_at hok upd_same
  have hn : H1 a = none := I1.hok.fresh ha
  obtain ⟨G, g1', g2'⟩ := restrict h2 fun b => decide (b ≠ a)
  have gk : ∀ b, b ≠ a → G.get? b = h2.get? b := fun b hb => g1' b (decide_eq_true hb)
  have ge : G.get? a = none := g2' a (by simp)
  have nha : ∀ {b : Addr} {o : Obj}, hp.get? b = some o → b ≠ a := fun {b o} z => Nat.ne_of_lt (Nat.lt_of_lt_of_le (Heap.lt_size z) ha)
  have up : ∀ {b : Addr}, b ≠ a → H1 b = none → upd H1 a (exo a C none) b = none := fun {b} hb n => by rw [upd_ne hb]; exact n
  have U : Un (frs X.stack) [] H1 H1 hp G := {
    keep := fun b o z n hf hx => by
      rw [gk b (nha z)]
      exact un.keep b o (k b o z) (up (nha z) n) hf hx
    slot := fun b o z n hf hx => by
      rw [gk b (nha z)]
      exact un.slot b o (k b o z) (up (nha z) n) hf hx
    free := fun b o z n hx => n
    there := fun b o z hx => by
      rw [gk b (nha z)]
      exact un.there b o (k b o z) hx
    tups := fun b xs z => z
    frzs := fun b o v z => z
    tbls := fun b ps z => ⟨#[], by rw [z]; simp⟩ }
  have hok3 : HOk X.prog X.w H1 G := fun b o z => by
    have hba : b ≠ a := ne_of_none z hn
    exact (hok b o (by rw [upd_ne hba]; exact z)).stay (fun c v hc y => by
        have hca : c ≠ a := by
          rcases hc with hc | hc
          · rw [hc]
            exact hba
          · exact at_ne upd_same hc exo_own
        rw [gk c hca]
        exact y)
      (fun c hc => by rw [upd_ne (at_ne upd_same hc exo_own)] at hc; exact hc) (fun c xs hc => by rw [upd_ne (at_ne upd_same hc exo_tup)] at hc; exact hc)
  have J : Inv X pins σ H1 ⟨G, g2, d2, t2, os2⟩ := I1.call' (ch := []) ho U hok3 hb (fun b z => absurd z (by simp))
  refine ⟨a, _, _, ⟨G, g2, d2, t2, os2⟩, H1, .ref C, none, rfl, J, fun b o z => ?_, ge, hoe, ⟨rfl, rfl⟩, rfl, rfl, hn, rfl, hb, T, q⟩
  by_cases hba : b = a
  · rw [hba, ge] at z
    cases z
  · exact (gk b hba).symm.trans z
section
variable {X : Cx} {C fI : Addr} {fd : FuncData} {B newId initId : String} {bmB : List Value} {x : Str} {p pos : Pos}
/-- C() -/
theorem pmk0 (T : ExcK X.K C B newId initId bmB) (iC : PySem.W.findIn X.K (.ref C) "__init__" = some (some (.ref fI))) (tI : PySem.W.isFn X.K (.ref fI) = true) (F1 : FnOk X.prog X.w X.K X.mg X.base (L2.CX X.prog X.w) 1 fI fd ["self"] spI0)
    (hr : Room 2 X.A) (hb : Binds X.K fd ["self"] []) (hg : Gl X x) (hm : X.mg x = some (.ref C)) (hdb : (x == ("__debug__" : Str)) = false := by decide) : PMk X (.Call (.Name x p) [] [] pos) (fun _ H Q => Q (.ref C) none H) := by
  intro pins s σ H Q I h
  refine wpAny_Call_Name_kw (ld_glob I hg hm ?_ hdb)
  refine PySem.W.callWith_K0 I.kIn T.kC ?_
  show wpAny _ _ (call (.ref C) []) _ _ _
  obtain ⟨nm, N, qn, bs, bm, hdct, sn, sub, ab, col, dd, k0, k1, k2, k3, k5, hC, hT⟩ := PySem.W.excInit_of I.kIn T.init
  obtain ⟨hp, g, dr, tk, os⟩ := s
  have hsz : hp.objs.size ≤ hp.objs.size + 1 := Nat.le_succ _
  have kk : ∀ b o, hp.get? b = some o → ((hp.push (PySem.W.kdv_tup [])).push (PySem.HandSPX.excO C hp.objs.size)).get? b = some o := fun b o e => Heap.get?_push_of_some _ (Heap.get?_push_of_some _ e)
  have hget : ((hp.push (PySem.W.kdv_tup [])).push (PySem.HandSPX.excO C hp.objs.size)).get? (hp.objs.size + 1) = some (PySem.HandSPX.excO C hp.objs.size) := by heap_get
  have I2 : Inv X pins σ (upd H (hp.objs.size + 1) (exo (hp.objs.size + 1) C none)) ⟨(hp.push (PySem.W.kdv_tup [])).push (PySem.HandSPX.excO C hp.objs.size), g, dr, tk, os⟩ :=
    I.laid (t' := tk) (a := hp.objs.size + 1) (o := exo (hp.objs.size + 1) C none) (h' := (hp.push (PySem.W.kdv_tup [])).push (PySem.HandSPX.excO C hp.objs.size)) kk hsz (exo_ok hget)
  obtain ⟨a, ha⟩ : ∃ a, a = hp.objs.size + 1 := ⟨_, rfl⟩
  rw [← ha] at hsz hget I2
  have hq : spI0 [.ref a] (upd H a (exo a C none)) (fun w H2 => w = .non ∧ H2 = upd H a (exo a C none)) (fun _ _ _ => False) := ⟨a, rfl, rfl, rfl⟩
  have hb2 := hb _ [Value.ref a] I2.kIn rfl
  refine wpAny_call (PySem.HandSPX.call_own T.base hT hC (PySem.W.looks_findIn I.kIn iC) (fun self => PySem.W.bind_fn I.kIn self (beq_iff_eq.mp tI)) (Nat.zero_le _)
    (codeAny_mono (by
      have run := F1.run (X.A.under (.builtin "type.__call__" ⟨.ref C :: [], []⟩)) X.stack _ _ ⟨Value.ref a :: [], []⟩ [Value.ref a] _ _ (fun _ _ _ => False) (hr.make C [] []) (I2.env0.make C [] []) (by simpa using hb2) (show Vals [V.ref a] [Value.ref a] from .cons rfl .nil) hq
      rw [← ha]
      exact run) fun r s' hq' => ?_))
  · cases r with
    | error er =>
      obtain ⟨_, _, _, _, _, _, _, _, _, _, _, _, z⟩ := (show L2.CX X.prog X.w X.stack _ _ _ er s' from hq')
      exact z.elim
    | ok fl =>
      cases fl with
      | ret u =>
        obtain ⟨w, H2, os2, bare2, un2, hok2, rv, ew, eH⟩ := hq'
        subst ew eH
        obtain ⟨h2, g2, d2, t2, os'⟩ := s'
        subst ha
        exact ⟨rv, mk_none (raises_own T.exC T.tyC) I hsz kk un2 hok2 os2 bare2 h⟩
      | next => exact False.elim hq'
      | brk => exact False.elim hq'
      | cont => exact False.elim hq'
end
/-! ### over data -/
/-- an own exception class whose __init__ keeps one thing under f; nothing -/
structure KnowsX1 (P : Program) (w : World) (K : PySem.W.Frag) (mg : Str → Option Value) (base : Heap) (x : Str) (C : Addr) (f : Str) : Prop where
  ex : ∃ B newId initId bmB fI fd, ExcK K C B newId initId bmB ∧ mg x = some (.ref C) ∧ PySem.W.findIn K (.ref C) "__init__" = some (some (.ref fI)) ∧ PySem.W.isFn K (.ref fI) = true ∧ FnOk P w K mg base (L2.CX P w) 1 fI fd ["self", f] (spI1 C f) ∧ Binds K fd ["self", f] []
structure KnowsX0 (P : Program) (w : World) (K : PySem.W.Frag) (mg : Str → Option Value) (base : Heap) (x : Str) (C : Addr) : Prop where
  ex : ∃ B newId initId bmB fI fd, ExcK K C B newId initId bmB ∧ mg x = some (.ref C) ∧ PySem.W.findIn K (.ref C) "__init__" = some (some (.ref fI)) ∧ PySem.W.isFn K (.ref fI) = true ∧ FnOk P w K mg base (L2.CX P w) 1 fI fd ["self"] spI0 ∧ Binds K fd ["self"] []
def sRaise1 (C : Addr) (f : Str) (ta : TDA) : TDS := fun D s G => ta s G (fun ds G1 => match ds with
  | [v] => D.ex (.ref C) [(f, v)] s G1
  | _ => False) D.ex
def sRaise0 (C : Addr) : TDS := fun D s G => D.ex (.ref C) [] s G
section
variable {X : Cx} {W : WX} {C : Addr} {f x : Str} {p pos pos' : Pos} {e : Expr} {ta : TDA}
theorem ds_raise1 (kn : KnowsX1 X.prog X.w X.K X.mg X.base x C f) (hr : Room 2 X.A) (tk : Takes X W) (ha : DA X W [e] ta) (hc : X.calm = true := by rfl) (hg : Gl X x := by rfl) (hdb : (x == ("__debug__" : Str)) = false := by decide)
    (he : starEach [e] X.env = (false, eval e X.env) :: starEach [] X.env := by rfl) (hpl : (backTo pos (starEach [] X.env)).any (·.1) = false := by rfl) : DS X W (.Raise (some (.Call (.Name x p) [e] [] pos)) none pos') (sRaise1 C f ta) := by
  obtain ⟨B, newId, initId, bmB, fI, fd, T, hm, iC, tI, F1, hb⟩ := kn.ex
  refine PS.imp (ps_raise hc tk (pmk1 T iC tI F1 hr hb hg hm ha hdb he hpl)) fun Dn σ H q => ?_
  obtain ⟨F, s, G, DD, A, S, t, l⟩ := q
  refine ⟨F, s, G, _, _, A, S, t, ⟨fun F1 H1 ds G1 vs st1 A1 r1 q1 => ?_, fun F1 H1 c dx fs s' G' st A' S' => l.ex F1 H1 c dx fs s' G' σ st A' S'⟩⟩
  split at q1
  · obtain ⟨v, rfl, rv⟩ := reps1 r1
    refine ⟨v, rfl, fun d hd => ?_⟩
    exact l.ex _ _ _ _ _ _ _ _ (st1.trans (stp_beside hd)) (A1.beside hd) (S.mono st1.le) (.inr ⟨d, _, rfl, upd_same, .cons rv .nil⟩) q1
  · exact q1.elim
theorem ds_raise0 (kn : KnowsX0 X.prog X.w X.K X.mg X.base x C) (hr : Room 2 X.A) (tk : Takes X W) (hc : X.calm = true := by rfl) (hg : Gl X x := by rfl) (hdb : (x == ("__debug__" : Str)) = false := by decide) :
    DS X W (.Raise (some (.Call (.Name x p) [] [] pos)) none pos') (sRaise0 C) := by
  obtain ⟨B, newId, initId, bmB, fI, fd, T, hm, iC, tI, F1, hb⟩ := kn.ex
  refine PS.imp (ps_raise hc tk (pmk0 T iC tI F1 hr hb hg hm hdb)) fun Dn σ H q => ?_
  obtain ⟨F, s, G, DD, A, S, t, l⟩ := q
  exact l.ex _ _ _ _ _ _ _ _ (.refl F H G) A S (.inl ⟨rfl, rfl⟩) t
end
end DL
end
section
set_option maxRecDepth 100000
/-! try .. except: one clause, its test one class or a tuple of three. -/
namespace DL
open PySem PySem.Spec PyProof.Rows L2
theorem flyingZ_keeps {base : Heap} {l : List Env} {e : Addr} {Z : Obj → Prop} {h h' : Heap} (R : PySem.HandSPX.FlyingZ base l e Z h) (k : ∀ b o, h.get? b = some o → h'.get? b = some o) : PySem.HandSPX.FlyingZ base l e Z h' := by
  obtain ⟨f1, f2, f3, oe, ws, T, oT, ts, he, hc, hd, h1, hn, hne, hT, hdT, h3⟩ := R
  exact ⟨fun b o q => k b o (f1 b o q), f2, f3.of_keeps fun b o q _ => ⟨o, k b o q, rfl⟩, oe, ws, T, oT, ts, k _ _ he, hc, hd, h1, hn, hne, k _ _ hT, hdT, h3⟩
/-- what the test of a clause says of the exception's class -/
def Tests (X : Cx) (t : Expr) (m : Value → Option Bool) : Prop := ∀ (a : Addr) (pn pins : List (Addr × Obj)) (σ : L2.St) (H : Hp) (s : Shared) (Q : Bool → Shared → Prop) (E E' : Value → Shared → Prop) (cls : Value) (b : Bool), Inv (X.suite a pn) pins σ H s →
  PySem.W.Looks (model X.prog X.w) s.heap (typeOf (.ref a)) cls → m cls = some b → (∀ h', (∀ b o, s.heap.get? b = some o → h'.get? b = some o) → Q b { s with heap := h' }) →
  wpAny (model X.prog X.w) (X.A.mark (some (.ref a))) (eval t X.env) (fun c s1 => wpAny (model X.prog X.w) (X.A.mark (some (.ref a))) (excMatches (.ref a) c) Q E' s1) E s
section
variable {X : Cx} {x x2 x3 : Str} {c c2 c3 : Value} {np p1 p2 p3 : Pos}
theorem load_name (hc : Names X x c) {a : Addr} {pn pins : List (Addr × Obj)} {σ : L2.St} {H : Hp} {s : Shared} (I : Inv (X.suite a pn) pins σ H s) {Q : Value → Shared → Prop} {E : Value → Shared → Prop} (q : Q c s) :
    wpAny (model X.prog X.w) (X.A.mark (some (.ref a))) (eval (.Name x np) X.env) Q E s := by
  obtain ⟨hg, hdbg, hm | ⟨hm, hv, hnn⟩⟩ := hc
  · exact ld_glob (X := X.suite a pn) I hg hm q hdbg
  · exact ld_blt (X := X.suite a pn) I hg hm hv q hnn hdbg
theorem tests_one (hc : Names X x c) : Tests X (.Name x np) (fun cls => PySem.W.exmOne X.K cls c) := by
  intro a pn pins σ H s Q E E' cls b I LT hm hq
  exact load_name hc I ((PySem.W.exm_one (M := model X.prog X.w) I.kIn LT hm).here (hq s.heap fun _ _ e => e))
theorem tests_three {k : Nat} (h1 : Names X x c) (h2 : Names X x2 c2) (h3 : Names X x3 c3) (hs : starEach [.Name x p1, .Name x2 p2, .Name x3 p3] X.env = [(false, eval (.Name x p1) X.env), (false, eval (.Name x2 p2) X.env), (false, eval (.Name x3 p3) X.env)] := by rfl) :
    Tests X (.Tuple [.Name x p1, .Name x2 p2, .Name x3 p3] k np) (fun cls => PySem.W.exmAny X.K cls [c, c2, c3]) := by
  intro a pn pins σ H s Q E E' cls b I LT hm hq
  have kp : ∀ b o, s.heap.get? b = some o → (s.heap.push { cls := .type "tuple", data := .seq [c, c2, c3].toArray }).get? b = some o := fun b o e => Heap.get?_push_of_some _ e
  refine wpAny_Tuple_spliced ?_
  rw [hs]
  show wpAny _ _ (spliced [(false, eval (.Name x p1) X.env), (false, eval (.Name x2 p2) X.env), (false, eval (.Name x3 p3) X.env)]) _ _ s
  refine Calls.spliced_cons (load_name h1 I ?_)
  refine Calls.spliced_cons (load_name h2 I ?_)
  refine Calls.spliced_cons (load_name h3 I ?_)
  refine Calls.spliced_nil ⟨by show 3 ≤ sizeLine; decide, ?_⟩
  exact (PySem.W.exm_tup3 (M := model X.prog X.w) (I.kIn.keeps kp) (LT.keeps kp) (Heap.get?_push_size _ rfl) hm).here (hq _ kp)
end
/-- what the clause wishes of an exception of the body -/
def wTest (m : Value → Option Bool) (ts : Addr → Value → Option Addr → TS) (Wout : WX) (D : Ends) : WX := fun cls d σ H =>
  ∃ b, m cls = some b ∧ (b = true → ∀ a, H a = none → ts a cls d D σ H) ∧ (b = false → Wout cls d σ H)
section
variable {X : Cx} {t : Expr} {m : Value → Option Bool} {body suite : List Stmt} {b₀ : Stmt} {pos pos' : Pos} {tb : WX → TS} {ts : Addr → Value → Option Addr → TS} {Wout : WX}
theorem ps_try_test (hs : X.stack = X.env :: X.outer) (hf : X.env.frame = some X.env.locals) (hc : Tests X t m) (tk : Takes X Wout)
    (hb : ∀ (W : WX) (pn : List (Addr × Obj)) (xe : Value → Shared → Prop), Takes (X.tr pn xe) W → PassesOwn (model X.prog X.w) X.A X.env xe → PSs (X.tr pn xe) body (tb W))
    (hsu : ∀ (a : Addr) (oe : Obj) (cls : Value) (d : Option Addr) (pn : List (Addr × Obj)), Zc cls d oe → (∃ vs, oe.data = .fields vs) → PSs (X.suite a ((a, oe) :: pn)) (b₀ :: suite) (ts a cls d)) :
    PS X (.Try body [.ExceptHandler (some t) none (b₀ :: suite) pos'] [] [] pos) (fun D σ H => tb (wTest m ts Wout D) D σ H) := by
  refine ⟨fun pins s σ H D I h => ?_⟩
  have ok := I.ok
  have hfr : X.A.frames = some (X.env :: X.outer) := by rw [ok.frames, hs]
  refine wpAny_Try_except ?_
  refine wpAny_mono ((hb (wTest m ts Wout D) (X.pn ++ pins) (fun e s₁ => wpAny (model X.prog X.w) X.A (noteFrame e X.env) (fun _ s₂ => wpAny (model X.prog X.w) X.A (setFlight e none) (fun _ s₃ =>
    wpAny (model X.prog X.w) X.A (handleBy e X.env [.ExceptHandler (some t) none (b₀ :: suite) pos']) (SP X pins D) X.xe s₃) X.xe s₂) X.xe s₁) (fun u s' xx => ?_) PassesOwn.looking).run [] s σ H D (I.toTry _) h) (fun f s1 hsp => ?_) (fun e s1 he => he)
  · obtain ⟨a, B, sI, pins', σ', H', cls, d, rfl, J', nb, up, sky, na, os, ag, b, hb1, hyes, hno⟩ := xx
    have J : Inv X pins σ' H' sI := J'.ofTry ok
    have sky' : Sky B (X.env :: X.outer) a (Zc cls d) X.env.locals s'.heap := by rw [← hs]; exact sky
    show wpAny (model X.prog X.w) X.A (noteFrame (.ref a) X.env) _ _ _
    refine Sky.land Zc.steady hfr hf sky' fun h3 fl3 up3 => ?_
    have J3 : Inv X pins σ' H' { s' with heap := h3 } := J.landed nb fl3.1 (up.trans up3) os ag
    obtain ⟨oe3, vs3, he3, hz3, hd3⟩ := fl3.there
    have notFr : ∀ {h : Heap} {o : Obj} {vs : Array Value}, h.FunFrames B (X.env :: X.outer) → h.get? a = some o → o.data = .fields vs → a ∉ frs (X.env :: X.outer) := fun {h o vs} ff e dd hm => by
      obtain ⟨_, o', e', hnf⟩ := ff.mem hm
      rw [e] at e'; cases e'
      exact hnf _ dd
    have nfr := notFr fl3.2.2.1 he3 hd3
    have nL : a ≠ X.env.locals := fun z => nfr (List.mem_filterMap.mpr ⟨X.env, List.mem_cons_self, by rw [hf, z]⟩)
    have nF : a ∉ X.fs := fun hm => by
      obtain ⟨e, he, q⟩ := List.mem_filterMap.mp hm
      exact nfr (List.mem_filterMap.mpr ⟨e, List.mem_cons_of_mem _ he, q⟩)
    have S3 := J3.suite he3 hd3 na nL nF
    have LT : PySem.W.Looks (model X.prog X.w) h3 (typeOf (.ref a)) cls := fun A Q E s k q => wpAny_typeOf_ref (k _ _ he3) (by rw [hz3.1]; exact q)
    refine wpAny_handleBy_cons (codeAny_handlers_test (hc a _ _ σ' H' _ _ _ _ cls b S3 LT hb1 fun h5 k5 => ?_)) (by intro q; cases q)
    have fl5 := flyingZ_keeps fl3 k5
    have up5 : h3.UpToSlots h5 := Heap.UpToSlots.of_keeps k5
    cases b with
    | true =>
      refine codeAny_handlers_suite ?_
      refine PySem.HandSPX.lands_againZ fl5 fun h4 fl4 up4 => ?_
      have J4 : Inv X pins σ' H' { s' with heap := h4 } := J.landed nb fl4.1 (((up.trans up3).trans up5).trans up4) os ag
      obtain ⟨oe4, vs4, he4, hz4, hd4⟩ := fl4.there
      have S4 := J4.suite he4 hd4 na nL nF
      refine wpAny_mono ((hsu a oe4 cls d (X.pn ++ pins) hz4 ⟨_, hd4⟩).run [] _ _ H' _ S4 (hyes rfl a na)) (fun f s6 hsp => ?_) (fun _ _ z => False.elim z)
      cases f with
      | next =>
        obtain ⟨σ6, H6, S6, q6⟩ := hsp
        exact ⟨_, _, S6.unsuite ok, q6⟩
      | brk =>
        obtain ⟨σ6, H6, S6, q6⟩ := hsp
        exact ⟨_, _, S6.unsuite ok, q6⟩
      | cont =>
        obtain ⟨σ6, H6, S6, q6⟩ := hsp
        exact ⟨_, _, S6.unsuite ok, q6⟩
      | ret u =>
        obtain ⟨v6, σ6, H6, S6, r6, q6⟩ := hsp
        exact ⟨_, _, _, S6.unsuite ok, r6, q6⟩
    | false =>
      show wpAny _ X.A (handleBy (.ref a) X.env []) _ _ _
      refine wpAny_handleBy_nil ?_
      obtain ⟨k1, k2, k3, oe, vs, T, oT, ts', he, hz, hd, h1, hr⟩ := id fl5
      unfold PySem.passOn
      refine wpAny_bind (wpAny_field he hd h1 ?_)
      rw [if_neg (show ¬ ((Value.ref T == Value.none) = true) from by simp)]
      have fin : wpAny (model X.prog X.w) X.A (setFlight (.ref a) X.env.frame) (fun _ s4 => wpAny (model X.prog X.w) X.A (throw (.ref a) : Sem Flow) (SP X pins D) X.xe s4) X.xe { s' with heap := h5 } := by
        rw [hf]
        refine PySem.HandSPX.setFlight_upZ fl5 fun h4 hh4 up4 => wpAny_throw (tk _ _ ?_)
        exact ⟨a, B, sI, pins, σ', H', cls, d, rfl, J, nb, (((up.trans up3).trans up5).trans up4), .inr (.inr (by rw [hs]; exact hh4)), na, os, ag, hno rfl⟩
      first
        | exact wpAny_bind (wpAny_pure (wpAny_bind fin))
        | exact wpAny_bind fin
  · cases f with
    | next =>
      obtain ⟨σ', H', J', q⟩ := hsp
      exact wpAny_execs_nil ⟨σ', H', J'.ofTry ok, q⟩
    | brk =>
      obtain ⟨σ', H', J', q⟩ := hsp
      exact ⟨σ', H', J'.ofTry ok, q⟩
    | cont =>
      obtain ⟨σ', H', J', q⟩ := hsp
      exact ⟨σ', H', J'.ofTry ok, q⟩
    | ret u =>
      obtain ⟨v, σ', H', J', r, q⟩ := hsp
      exact ⟨v, σ', H', J'.ofTry ok, r, q⟩
end

/-! ### over data -/
/-- a try with one clause without a name, whose suite raises nothing -/
def sTry (m : Value → Option Bool) (tb th : TDS) : TDS := fun D s G => tb { D with ex := fun cls fs s' G' => ∃ b, m cls = some b ∧ (if b = true then th { D with ex := noX } s' G' else D.ex cls fs s' G') } s G
/-- .. whose body raises nothing -/
def sTryNo (tb : TDS) : TDS := fun D s G => tb { D with ex := noX } s G
section
variable {X : Cx} {W : WX} {t : Expr} {m : Value → Option Bool} {body suite : List Stmt} {b₀ : Stmt} {pos pos' : Pos} {tb th : TDS} {h₀ : ExceptHandler} {hs : List ExceptHandler}
theorem ds_try (hc : Tests X t m) (tk : Takes X W) (hb : ∀ (W : WX) (pn : List (Addr × Obj)) (xe : Value → Shared → Prop), Takes (X.tr pn xe) W → PassesOwn (model X.prog X.w) X.A X.env xe → DSs (X.tr pn xe) W body tb)
    (hsu : ∀ (a : Addr) (oe : Obj) (pn : List (Addr × Obj)), DSs (X.suite a ((a, oe) :: pn)) W0 (b₀ :: suite) th) (hs : X.stack = X.env :: X.outer := by rfl) (hf : X.env.frame = some X.env.locals := by rfl) :
    DS X W (.Try body [.ExceptHandler (some t) none (b₀ :: suite) pos'] [] [] pos) (sTry m tb th) :=
  PS.imp (ps_try_test (tb := fun W => liftS X.K W tb) (ts := fun _ _ _ => liftS X.K W0 th) hs hf hc tk (fun W pn xe tk hp => hb W pn xe tk hp) (fun a oe cls d pn _ _ => hsu a oe pn)) fun Dn σ H q => by
    obtain ⟨F, s, G, DD, A, S, t, l⟩ := q
    refine ⟨F, s, G, _, A, S, t, ⟨l.nx, l.rt, l.bk, l.ct, fun F1 H1 cls dx fs s1 G1 σ1 st1 A1 S1 rx q1 => ?_⟩⟩
    obtain ⟨b, hb, q1⟩ := q1
    refine ⟨b, hb, fun e a ha => ?_, fun e => ?_⟩
    · subst e
      refine ⟨F1, s1, G1, _, A1, S1, untT q1, ?_⟩
      have l1 := l.mono st1
      exact ⟨l1.nx, l1.rt, l1.bk, l1.ct, fun _ _ _ _ _ _ _ _ _ _ _ _ z => z.elim⟩
    · subst e
      exact l.ex F1 H1 cls dx fs s1 G1 σ1 st1 A1 S1 rx (untF q1)
theorem ds_tryNo (hb : DSs X.nox W0 body tb) : DS X W (.Try body (h₀ :: hs) [] [] pos) (sTryNo tb) := PS.imp (ps_try_thru0 hb) fun Dn σ H q => by
  obtain ⟨F, s, G, DD, A, S, t, l⟩ := q
  exact ⟨F, s, G, _, A, S, t, ⟨l.nx, l.rt, l.bk, l.ct, fun _ _ _ _ _ _ _ _ _ _ _ _ z => z.elim⟩⟩
end
end DL
end
section
set_option maxRecDepth 100000
set_option maxHeartbeats 1000000
/-! Lambdas made; sorted by the first text of each. -/
namespace DL
open PySem PySem.Spec PyProof.Rows L2 LamX
/-- a lambda's function object -/
def LamO (f : Addr) (q : Str) (params : Arguments) (body : Expr) (scope : Scope) (cl : List (Str × Addr)) (c' : Addr) : HO := .ext fun h => ∃ pm ctv : Value, h.get? f = some (PySem.W.kla_obj "<lambda>" q params body scope cl pm c' ctv)
/-- the heap behind the making of a lambda -/
def LamStep (H : Hp) (P : Addr) (q : Str) (lo : Addr → Addr → HO) (f c' : Addr) (H1 : Hp) : Prop :=
  ∃ H', (H' = H ∨ ∃ ps more, H P = some (.tbl ps) ∧ H c' = none ∧ H' = upd (upd H P (.tbl (ps ++ more))) c' (CodeO c' q)) ∧ TabS H' P q ∧ H' c' = some (CodeO c' q) ∧ H' f = none ∧ H1 = upd H' f (lo f c')
theorem lamO_ok {P : Program} {w : World} {H : Hp} {h : Heap} {f : Addr} {q : Str} {params : Arguments} {body : Expr} {scope : Scope} {cl : List (Str × Addr)} {c' : Addr} {pm ctv : Value} (e : h.get? f = some (PySem.W.kla_obj "<lambda>" q params body scope cl pm c' ctv)) :
    ObjOk P w H h f (LamO f q params body scope cl c') := ⟨⟨pm, ctv, e⟩, ⟨_, e⟩, fun h1 h2 ⟨pm, ctv, a⟩ st => ⟨pm, ctv, st _ a⟩⟩
section
variable {X : Cx} {pins : List (Addr × Obj)} {σ : L2.St} {H : Hp} {s : Shared}
theorem lam_made {c P : Addr} {params : Arguments} {body : Expr} {scope : Scope} {pos : Pos} {E : Value → Shared → Prop} {Q : Value → Shared → Prop} (I : Inv X pins σ H s) (TB : TabB X.base X.mg c P) (hcode : X.env.code = .ref c)
    (hT : TabS H P (X.env.qual ++ "<lambda>")) (hdef : defaultsOf params X.env = ([], [])) (hfree : ∀ y ∈ scope.names, y.2 = .free → ∃ c, X.env.cells.lookup y.1 = some c)
    (h : ∀ (f c' : Addr) (H1 : Hp) (s' : Shared), Inv X pins σ H1 s' → LamStep H P (X.env.qual ++ "<lambda>") (fun f c' => LamO f (X.env.qual ++ "<lambda>") params body scope (cloFrom X.env.cells scope.names []) c') f c' H1 → Q (.ref f) s') :
    wpAny (model X.prog X.w) X.A (eval (.Lambda params body scope pos) X.env) Q E s := by
  obtain ⟨ps, hP, ht, ha⟩ := id hT
  refine PySem.W.kla_eval hdef ?_
  have bP : s.heap.BuiltinsAt X.mg P := TB.bm.keeps I.bk
  have hP' : s.heap.get? P = some { cls := .none, data := .fields ps } := I.hok P _ hP
  cases hc : codeAmong pos ps.toList with
  | none =>
    refine PySem.W.kla_makeFunction (mg := X.mg) (c := c) (P := P) (ps := ps) (closure_ok hfree) I.ok.glob (I.mod.glob.keeps I.bk) hcode (TB.code.keeps I.bk) hP' ht hc TB.gP bP fun c' ctv h' tk hx hge hlt hrec htb => ?_
    obtain ⟨c2, oc, vs, t, e2, hoc, hd, hv⟩ := hrec
    cases e2
    have nC : H c' = none := I.hok.fresh hge
    have I1 := inv_table (t' := tk) (more := #[rawInt pos.line, rawInt pos.col, .ref c']) (h' := h') I hP (fun b o hb e => hx b o hb e) htb hge ⟨oc, vs, t, hoc, hd, hv⟩
    have I2 := I1.laid (t' := tk) (a := h'.objs.size) (o := LamO h'.objs.size (X.env.qual ++ "<lambda>") params body scope (cloFrom X.env.cells scope.names []) c')
      (h' := h'.push (PySem.W.kla_obj "<lambda>" (X.env.qual ++ "<lambda>") params body scope (cloFrom X.env.cells scope.names []) ((X.mg "__name__").getD .none) c' ctv)) (fun b o e => Heap.get?_push_of_some _ e) (Nat.le_refl _) (lamO_ok (Heap.get?_push_size _ rfl))
    refine h _ c' _ _ I2 ⟨_, .inr ⟨ps, _, hP, nC, rfl⟩, ?_, upd_same, I1.hok.fresh (Nat.le_refl _), rfl⟩
    have eL : (ps ++ #[rawInt pos.line, rawInt pos.col, .ref c']).toList = ps.toList ++ [rawInt pos.line, rawInt pos.col, .ref c'] := by simp
    refine ⟨_, by rw [upd_ne (ne_of_none hP nC), upd_same], by rw [eL]; exact PySem.TriplesOk_snoc _ _ _ _ ht, fun p' cv hcv => ?_⟩
    rw [eL] at hcv
    rcases among_app _ ht hcv with z | z
    · obtain ⟨c0, e1, e2⟩ := ha p' cv z
      refine ⟨c0, e1, ?_⟩
      rw [upd_ne (ne_of_none e2 nC), upd_ne (fun z => codeO_ne ps (Option.some.inj (e2.symm.trans (by rw [z]; exact hP))))]
      exact e2
    · exact ⟨c', z, upd_same⟩
  | some cv =>
    obtain ⟨c', e, hco⟩ := ha pos cv hc
    subst e
    refine PySem.W.kla_makeFunctionHit (mg := X.mg) (c := c) (P := P) (ps := ps) (closure_ok hfree) I.ok.glob (I.mod.glob.keeps I.bk) hcode (TB.code.keeps I.bk) hP' ht hc bP fun ctv h' tk hx hsz => ?_
    have I1 : Inv X pins σ H { s with heap := h', toks := tk } := I.kept fun b o e => hx b o e
    have I2 := I1.laid (t' := tk) (a := h'.objs.size) (o := LamO h'.objs.size (X.env.qual ++ "<lambda>") params body scope (cloFrom X.env.cells scope.names []) c')
      (h' := h'.push (PySem.W.kla_obj "<lambda>" (X.env.qual ++ "<lambda>") params body scope (cloFrom X.env.cells scope.names []) ((X.mg "__name__").getD .none) c' ctv)) (fun b o e => Heap.get?_push_of_some _ e) (Nat.le_refl _) (lamO_ok (Heap.get?_push_size _ rfl))
    exact h _ c' _ _ I2 ⟨H, .inl rfl, hT, hco, I1.hok.fresh (Nat.le_refl _), rfl⟩
end
/-- over data: a step that leaves all but the table as it is -/
theorem lam_abs {K : PySem.W.Frag} {F H H1 : Hp} {G : GD} {P f c' : Addr} {q : Str} {lo : Addr → Addr → HO} (A : AbsH K F H G) (hP : G P = some (.tab q)) (st : LamStep H P q lo f c' H1) : AbsH K F H1 G ∧ Stp F H G F H1 G := by
  obtain ⟨H', hH, tS, hc, hf, rfl⟩ := st
  have key : AbsH K F H' G ∧ Stp F H G F H' G := by
    rcases hH with rfl | ⟨ps, more, hT, nC, rfl⟩
    · exact ⟨A, .refl _ _ _⟩
    · have ex : ∀ {a : Addr} {o : HO}, H a = some o → (∀ ps, o ≠ .tbl ps) → upd (upd H P (.tbl (ps ++ more))) c' (CodeO c' q) a = some o := fun {a o} e n => by
        rw [upd_ne (ne_of_none e nC), upd_ne (fun z => n ps (Option.some.inj (e.symm.trans (by rw [z]; exact hT))))]; exact e
      refine ⟨⟨fun a o e => ?_, fun a o e => ?_⟩, ⟨.refl F, fun a ob u e => ex e (fun _ z => by cases z), fun b o e n f g => ⟨ex e n, f, g⟩⟩⟩
      · obtain ⟨im, h⟩ := A.sub a o e
        refine ⟨im, ?_⟩
        rcases h with h | ⟨z, ob, h⟩
        · exact .inl (ex h fun ps z => by subst z; exact im)
        · exact .inr ⟨z, ob, ex h fun ps z => by cases z⟩
      · obtain ⟨n, r⟩ := A.obj a o e
        refine ⟨n, ?_⟩
        cases o with
        | lst ds => obtain ⟨xs, h, r⟩ := r; exact ⟨xs, ex h (fun _ z => by cases z), r⟩
        | dict ds => obtain ⟨xs, h, r⟩ := r; exact ⟨xs, ex h (fun _ z => by cases z), r⟩
        | ins C fs => obtain ⟨dx, xs, h, r⟩ := r; exact ⟨dx, xs, ex h (fun _ z => by cases z), r⟩
        | tup ds => obtain ⟨xs, ob, h, r⟩ := r; exact ⟨xs, ob, ex h (fun _ z => by cases z), r⟩
        | tab q' =>
          by_cases ea : a = P
          · subst ea
            rw [hP] at e
            cases e
            exact tS
          · obtain ⟨ps', h1, h2, h3⟩ := r
            refine ⟨ps', by rw [upd_ne (ne_of_none h1 nC), upd_ne ea]; exact h1, h2, fun pos cv hcv => ?_⟩
            obtain ⟨c0, e1, e2⟩ := h3 pos cv hcv
            exact ⟨c0, e1, ex e2 codeO_ne⟩
  exact ⟨key.1.beside hf, key.2.trans (stp_beside hf)⟩
end DL
end
section
set_option maxRecDepth 100000
set_option maxHeartbeats 1000000
/-! sorted(xs, key=lambda x: x[0]) of tuples that begin with a text. -/
namespace DL
open PySem PySem.Spec PyProof.Rows L2 LamX
/-- one parameter, no other name -/
def lam1B (x : Str) (scope : Scope) : Bool := decide (scope.kind = .function) && !scope.isCoroutine && !scope.isGenerator && (scope.names.all fun y => !decide (y.2 = .cell) && !decide (y.2 = .free)) && decide (scope.names.lookup x = some .local)
abbrev keyS (b : Str × V) : PyData := .str b.1
/-- the items by their texts -/
def byText {α : Type} (bs : List (Str × α)) : List (Str × α) := bs.mergeSort (PySem.W.dataLe false fun b => PyData.str b.1)
section
variable {prog : Program} {w : World} {A : Around} {s : Shared}
theorem turn_first {f c' a : Addr} {q x : Str} {params : Arguments} {scope : Scope} {pm ctv : Value} {its : Array Value} {z : Str} {tz : Tok} {p1 p2 p3 : Pos} {j : Nat} (hd : A.depth < recursionLimit) (hS : lam1B x scope = true) (hlim : s.heap.NoLimit)
    (hf : s.heap.get? f = some (PySem.W.kla_obj "<lambda>" q params (.Subscript (.Name x p1) (.Constant (.int 0) j p2) p3) scope [] pm c' ctv)) (hc : s.heap.CodeRec (.ref c') q) (hbind : ∀ v, bindArgs (PySem.W.kla_fn "<lambda>" q params (.Subscript (.Name x p1) (.Constant (.int 0) j p2) p3) scope [] pm (.ref c') ctv) ⟨[v], []⟩ = pure [(x, v)])
    (ht : IsTup s.heap a its) (hz : its[0]? = some (.str z tz)) (hn : its.size ≤ sizeLine) (hx : (x == ("__debug__" : Str)) = false) : wpAny (model prog w) A (call (.ref f) [.ref a]) (PySem.W.KeyPure (.str z) s) (fun _ _ => False) s := by
  unfold lam1B at hS
  simp only [Bool.and_eq_true, Bool.not_eq_true', decide_eq_true_eq, decide_eq_false_iff_not, List.all_eq_true] at hS
  obtain ⟨⟨⟨⟨k1, k2⟩, k3⟩, k4⟩, k5⟩ := hS
  obtain ⟨c2, oc, vs, t, e2, hoc, hdc, hvc⟩ := hc
  cases e2
  refine wpAny_call (PySem.W.kla_callFunE hd hf rfl k2 k3 rfl ⟨c', oc, vs, t, rfl, hoc, hdc, hvc⟩ ?_)
  rw [hbind]
  refine wpAny_pure (wpAny_newFunctionEnv (fun y hy => (k4 y hy).1) (fun y hy => ?_) (fun h₁ hns hsb => ⟨hlim.fresh _ hsb, ?_⟩) k1)
  · have e : y = (x, Value.ref a) := by simpa using hy
    subst e
    exact k5
  have kp : ∀ b o, s.heap.get? b = some o → h₁.get? b = some o := fun b o e => hsb.extBut b o (Nat.ne_of_lt (Heap.lt_size e)) (Heap.get?_push_of_some _ e)
  refine PySem.W.kla_codeExpr (Subscript_ ?_)
  refine wpAny_Name (wpAny_loadName_local (v := .ref a) k1 k5 hns (by simp) ?_) hx
  refine wpAny_Constant_int ?_
  have ht1 : IsTup h₁ a its := by
    obtain ⟨o, e, r⟩ := ht
    exact ⟨o, kp _ _ e, r⟩
  have hlt : 0 < its.size := (Array.getElem?_eq_some_iff.mp hz).1
  have hl := line63
  refine subscriptTail_builtinR (x := Value.str z tz) ht1.typeIs slot_tuple_getitem.lookup (getItem_tuple (j := 0) (Q := fun r s' => r = Value.str z tz ∧ _) ht1 (by omega) (by omega) ?_ hz ⟨rfl, ?_⟩) rfl
  · rw [seqIndex_of (by omega) (by omega)]; rfl
  · exact ⟨h₁, _, rfl, kp, .str z tz⟩
end
/-- sorted(e, key=lambda x: x[0]) -/
def tSortKey (K : PySem.W.Frag) (P : Addr) (q : Str) (lo : Addr → Addr → HO) (te : TE) : TE := fun σ H Q => te σ H fun y H1 => ∃ l bs, y = .ref l ∧ SqL K H1 l (bs.map Prod.snd) ∧ (∀ b ∈ bs, ∃ t r, b.2 = V.ref t ∧ SqT K H1 t (.str b.1 :: r)) ∧ TabS H1 P q ∧
  ∀ f c' H2, LamStep H1 P q lo f c' H2 → ∀ p, H2 p = none → Q (.ref p) (upd H2 p (.lst ((byText bs).map Prod.snd)))
section
variable {X : Cx} {c P : Addr} {x : Str} {e : Expr} {te : TE} {params : Arguments} {scope : Scope} {p pos lpos kpos p1 p2 p3 : Pos} {j : Nat}
theorem pe_sortKey (hg : Gl X "sorted") (hm : X.mg "sorted" = none) (he : PE X e te) (TB : TabB X.base X.mg c P) (hcode : X.env.code = .ref c) (hr : Room 4 X.A) (hS : lam1B x scope = true) (hdef : defaultsOf params X.env = ([], []))
    (hbind : ∀ (q : Str) (pm cv ctv v : Value), bindArgs (PySem.W.kla_fn "<lambda>" q params (.Subscript (.Name x p1) (.Constant (.int 0) j p2) p3) scope [] pm cv ctv) ⟨[v], []⟩ = pure [(x, v)]) (hx : (x == ("__debug__" : Str)) = false := by decide)
    (hs : backTo pos (starEach [e] X.env) = (false, eval e X.env) :: backTo pos (starEach [] X.env) := by rfl) (hpl : (backTo pos (starEach [e] X.env)).any (·.1) = false := by rfl) :
    PE X (.Call (.Name "sorted" p) [e] [⟨some "key", .Lambda params (.Subscript (.Name x p1) (.Constant (.int 0) j p2) p3) scope lpos, kpos⟩] pos)
      (tSortKey X.K P (X.env.qual ++ "<lambda>") (fun f c' => LamO f (X.env.qual ++ "<lambda>") params (.Subscript (.Name x p1) (.Constant (.int 0) j p2) p3) scope [] c') te) := by
  refine ⟨fun pins s σ H Q I h => ?_⟩
  have hcl : cloFrom X.env.cells scope.names [] = [] := by
    unfold lam1B at hS
    simp only [Bool.and_eq_true, Bool.not_eq_true', decide_eq_true_eq, decide_eq_false_iff_not, List.all_eq_true] at hS
    have k4 := hS.1.2
    cases hq : cloFrom X.env.cells scope.names [] with
    | nil => rfl
    | cons y r =>
      have hm : y ∈ cloFrom X.env.cells scope.names [] := by rw [hq]; exact List.mem_cons_self
      obtain ⟨n, a⟩ := y
      rcases cloFrom_mem hm with z | ⟨z, _⟩
      · cases z
      · exact absurd rfl (k4 _ z).2
  have hfree : ∀ y ∈ scope.names, y.2 = .free → ∃ c, X.env.cells.lookup y.1 = some c := fun y hy e2 => by
    unfold lam1B at hS
    simp only [Bool.and_eq_true, Bool.not_eq_true', decide_eq_true_eq, decide_eq_false_iff_not, List.all_eq_true] at hS
    exact absurd e2 (hS.1.2 y hy).2
  refine wpAny_Call_Name_kw (ld_blt I hg hm PyProof.Rows.boot_sorted ?_ (by decide) (by decide))
  refine PyProof.Rows.callWith_kw ?_ hs hpl rfl rfl
  rw [hs]
  refine Calls.spliced_cons (thn (he.run pins s σ H _ I h) fun u s1 ⟨y, H1, I1, ry, l, bs, ey, hq, hb, hT, q⟩ => Calls.spliced_nil ?_)
  subst ey
  obtain rfl : u = Value.ref l := ry
  show wpAny _ _ (evalAll [do let v ← eval (.Lambda params (.Subscript (.Name x p1) (.Constant (.int 0) j p2) p3) scope lpos) X.env; standAt pos; pure v]) _ _ s1
  refine wpAny_evalAll_cons (wpAny_bind (lam_made I1 TB hcode hT hdef hfree fun f c' H2 s2 I2 st => wpAny_bind (wpAny_standAt (wpAny_pure (wpAny_evalAll_nil ?_)))))
  rw [hcl] at st
  show wpAny _ _ (call (.builtin "sorted") [.ref l] [(Str.ofString "key", .ref f)]) _ _ s2
  have q2 := q f c' H2 st
  obtain ⟨H', hH, tS, hc, hf, rfl⟩ := st
  have stay : ∀ {a : Addr} {o : HO}, H1 a = some o → (∀ ps, o ≠ .tbl ps) → upd H' f (LamO f (X.env.qual ++ "<lambda>") params (.Subscript (.Name x p1) (.Constant (.int 0) j p2) p3) scope [] c') a = some o := fun {a o} e n => by
    have e2 : H' a = some o := by
      rcases hH with rfl | ⟨ps, more, hT, nC, rfl⟩
      · exact e
      · rw [upd_ne (ne_of_none e nC), upd_ne (fun z => n ps (Option.some.inj (e.symm.trans (by rw [z]; exact hT))))]; exact e
    rw [upd_ne (ne_of_none e2 hf)]; exact e2
  have sqL : ∀ {a xs}, SqL X.K H1 a xs → SqL X.K (upd H' f (LamO f (X.env.qual ++ "<lambda>") params (.Subscript (.Name x p1) (.Constant (.int 0) j p2) p3) scope [] c')) a xs := fun h => by
    rcases h with (h | ⟨o, h⟩) | h
    · exact .inl (.inl (stay h fun _ z => by cases z))
    · exact .inl (.inr ⟨o, stay h fun _ z => by cases z⟩)
    · exact .inr h
  have sqT : ∀ {a xs}, SqT X.K H1 a xs → SqT X.K (upd H' f (LamO f (X.env.qual ++ "<lambda>") params (.Subscript (.Name x p1) (.Constant (.int 0) j p2) p3) scope [] c')) a xs := fun h => by
    rcases h with (h | ⟨o, h⟩) | h
    · exact .inl (.inl (stay h fun _ z => by cases z))
    · exact .inl (.inr ⟨o, stay h fun _ z => by cases z⟩)
    · exact .inr h
  obtain ⟨its, rv, pl, hz⟩ := I2.list (sqL hq)
  obtain ⟨⟨pm, ctv, hfo⟩, _, _⟩ := I2.hok f _ upd_same
  have hcf : c' ≠ f := ne_of_none hc hf
  obtain ⟨⟨oc, vs, t, hoc, hdc, hvc⟩, _, _⟩ := I2.hok c' (CodeO c' (X.env.qual ++ "<lambda>")) (by rw [upd_ne hcf]; exact hc)
  have lim := I2.nolimit
  have R : ∀ {us : List Value} {cs : List (Str × V)}, Vals (cs.map Prod.snd) us → (∀ b ∈ cs, ∃ t r, b.2 = V.ref t ∧ SqT X.K H1 t (.str b.1 :: r)) →
      PySem.W.EachIs (fun (v : Value) (b : Str × V) => RelV b.2 v ∧ ∃ a its tz, v = Value.ref a ∧ IsTup s2.heap a its ∧ its[0]? = some (.str b.1 tz) ∧ its.size ≤ sizeLine) us cs := by
    intro us cs
    induction cs generalizing us with
    | nil => intro r _; cases r; exact .nil
    | cons b cs ih =>
      intro r hb
      cases r with
      | cons h t =>
        refine .cons ⟨h, ?_⟩ (ih t fun d hd => hb d (List.mem_cons_of_mem _ hd))
        obtain ⟨t0, r0, e1, e2⟩ := hb b List.mem_cons_self
        rw [e1] at h
        obtain ⟨tits, trv, tp, tz⟩ := I2.tuple (sqT e2)
        cases trv with
        | @cons _ u0 _ ur rs rt =>
          obtain ⟨tk, rfl⟩ := rs
          exact ⟨t0, _, tk, h, tp, rfl, by have := Paired.length rt; simp only [List.length_cons] at tz; simp; omega⟩
  have hbz : bs.length ≤ sizeLine := by simpa using hz
  refine PySem.W.sorted_key_data (fun b : Str × V => PyData.str b.1) pl.isList (R rv hb) (PySem.W.AllAlike.of fun _ _ => by unfold PySem.W.alike; rfl) (PySem.W.Sortable.others fun _ => ⟨PyData.noConfusion, fun xs => PyData.noConfusion⟩) hbz (fun b _ => ?_) (PyProof.Rows.ksk_s1 _ _) (fun a => PyProof.Rows.ksk_l1 _ _) (fun a => PyProof.Rows.ksk_t1 f a) (fun v b hR _ h5 tk5 k5 => ?_) (fun out c5 h5 tk5 k5 hn5 h6 hl5 e5 => ?_)
  · have := hr.un
    show X.A.units + 2 + (PyData.str b.1).depth < cLine
    have e : (PyData.str b.1).depth = 0 := by simp [PyData.depth]
    omega
  · obtain ⟨_, a5, its5, tz5, rfl, ht5, hz5, hn6⟩ := hR
    have hdp := hr.dp
    refine turn_first (s := { s2 with heap := h5, toks := tk5 }) (A := X.A.in1.in1) (show X.A.depth < recursionLimit by omega) hS (lim.keeps k5) (k5 _ _ hfo) ⟨c', oc, vs, t, rfl, k5 _ _ hoc, hdc, hvc⟩ (fun v => hbind _ _ _ _ v) ?_ hz5 hn6 hx
    obtain ⟨o, e, r⟩ := ht5
    exact ⟨o, k5 _ _ e, r⟩
  · have vo : ∀ {us : List Value} {cs : List (Str × V)}, PySem.W.EachIs (fun (v : Value) (b : Str × V) => RelV b.2 v ∧ ∃ a its tz, v = Value.ref a ∧ IsTup s2.heap a its ∧ its[0]? = some (.str b.1 tz) ∧ its.size ≤ sizeLine) us cs → Vals (cs.map Prod.snd) us := by
      intro us cs e
      induction cs generalizing us with
      | nil => cases e; exact .nil
      | cons b cs ih =>
        cases e with
        | cons h t => exact .cons h.1 (ih t)
    have v5 := vo e5
    have hfr : (upd H' f (LamO f (X.env.qual ++ "<lambda>") params (.Subscript (.Name x p1) (.Constant (.int 0) j p2) p3) scope [] c')) (s2.heap.objs.size + 1) = none := I2.hok.fresh (Nat.le_succ _)
    refine ⟨.ref (s2.heap.objs.size + 1), _, I2.laid (t' := tk5) (a := s2.heap.objs.size + 1) (h' := h5) (o := .lst ((byText bs).map Prod.snd)) k5 (Nat.le_succ _) ⟨?_, out, c5, v5, h6⟩, rfl, q2 _ hfr⟩
    rw [List.length_map]
    unfold byText
    rw [List.length_mergeSort]
    exact hbz
end

/-! ### over data -/
/-- a tuple that begins with a text -/
abbrev txtD (b : Str × List D) : D := .tup (.str b.1 :: b.2)
def dSortKey (P : Addr) (q : Str) (te : TDE) : TDE := fun s G Q E => te s G (fun d G1 => ∃ bs : List (Str × List D), d = .lst (bs.map txtD) ∧ G1 P = some (.tab q) ∧ Q (.lst ((byText bs).map txtD)) G1) E
theorem byText_map {α β : Type} (f : Str × α → Str × β) (hf : ∀ a, (f a).1 = a.1) (l : List (Str × α)) : (byText l).map f = byText (l.map f) := by
  unfold byText
  refine List.map_mergeSort fun a _ b _ => ?_
  show PySem.W.dataLe false _ a b = PySem.W.dataLe false _ (f a) (f b)
  rw [PySem.W.dataLe_eq, PySem.W.dataLe_eq]
  simp only [hf]
theorem reps_of {K : PySem.W.Frag} {F : Hp} {α : Type} {f : α → D} {g : α → V} : ∀ {l : List α}, (∀ a ∈ l, Rep K F (f a) (g a)) → Reps K F (l.map f) (l.map g)
  | [], _ => .nil
  | a :: l, h => .cons (h a List.mem_cons_self) (reps_of fun b hb => h b (List.mem_cons_of_mem _ hb))
theorem texts_zip {K : PySem.W.Frag} {F : Hp} : ∀ {bs : List (Str × List D)} {vs : List V}, Reps K F (bs.map txtD) vs → ∃ cs : List (Str × (List D × V)), cs.map (fun c => (c.1, c.2.1)) = bs ∧ cs.map (fun c => c.2.2) = vs ∧ ∀ c ∈ cs, Rep K F (txtD (c.1, c.2.1)) c.2.2
  | [], _, h => by cases h; exact ⟨[], rfl, rfl, fun _ h => by cases h⟩
  | b :: bs, _, h => by
    cases h with
    | @cons _ v _ vs r t =>
      obtain ⟨cs, e1, e2, h⟩ := texts_zip t
      refine ⟨(b.1, b.2, v) :: cs, by simp [e1], by simp [e2], fun c hc => ?_⟩
      rcases List.mem_cons.mp hc with rfl | hc
      · exact r
      · exact h c hc
section
variable {X : Cx} {W : WX} {c P : Addr} {x : Str} {e : Expr} {te : TDE} {params : Arguments} {scope : Scope} {p pos lpos kpos p1 p2 p3 : Pos} {j : Nat}
theorem de_sortedKey (hm : X.mg "sorted" = none) (TB : TabB X.base X.mg c P) (hcode : X.env.code = .ref c) (hr : Room 4 X.A) (he : DE X W e te) (hg : Gl X "sorted" := by rfl) (hS : lam1B x scope = true := by decide +kernel) (hdef : defaultsOf params X.env = ([], []) := by rfl)
    (hbind : ∀ (q : Str) (pm cv ctv v : Value), bindArgs (PySem.W.kla_fn "<lambda>" q params (.Subscript (.Name x p1) (.Constant (.int 0) j p2) p3) scope [] pm cv ctv) ⟨[v], []⟩ = pure [(x, v)] := by intros; rfl) (hx : (x == ("__debug__" : Str)) = false := by decide)
    (hs : backTo pos (starEach [e] X.env) = (false, eval e X.env) :: backTo pos (starEach [] X.env) := by rfl) (hpl : (backTo pos (starEach [e] X.env)).any (·.1) = false := by rfl) :
    DE X W (.Call (.Name "sorted" p) [e] [⟨some "key", .Lambda params (.Subscript (.Name x p1) (.Constant (.int 0) j p2) p3) scope lpos, kpos⟩] pos) (dSortKey P (X.env.qual ++ "<lambda>") te) :=
  PE.imp (pe_sortKey hg hm he TB hcode hr hS hdef hbind hx hs hpl) fun σ H Q q => by
    obtain ⟨F, s, G, QD, ED, A, S, t, l⟩ := q
    refine ⟨F, s, G, _, ED, A, S, t, ⟨fun F1 H1 d1 G1 y st1 A1 r1 q1 => ?_, l.ex⟩⟩
    obtain ⟨bs, rfl, hP, q1⟩ := q1
    cases r1 with
    | @lst a vs _ ha rs =>
      obtain ⟨cs, e1, e2, hcs⟩ := texts_zip rs
      obtain ⟨_, tab⟩ := A1.obj P _ hP
      refine ⟨a, cs.map fun c => (c.1, c.2.2), rfl, ?_, fun b hb => ?_, tab, fun f c' H2 st p hp => ?_⟩
      · have e : (cs.map fun c => (c.1, c.2.2)).map Prod.snd = vs := by rw [← e2, List.map_map]; rfl
        rw [e]
        exact A1.sqL ha
      · obtain ⟨c0, hc0, rfl⟩ := List.mem_map.mp hb
        have r := hcs c0 hc0
        cases hv : c0.2.2 with
        | ref t0 =>
          rw [hv] at r
          cases r with
          | tup h1 rr =>
            cases rr with
            | cons r1 r2 => cases r1; exact ⟨t0, _, rfl, A1.sqT h1⟩
        | _ => rw [hv] at r; cases r
      · obtain ⟨A2, st2⟩ := lam_abs A1 hP st
        have eb : byText bs = (byText cs).map fun c => (c.1, c.2.1) := by rw [byText_map (fun c : Str × (List D × V) => (c.1, c.2.1)) (fun _ => rfl), e1]
        have ev : (byText (cs.map fun c => (c.1, c.2.2))).map Prod.snd = (byText cs).map fun c => c.2.2 := by
          rw [← byText_map (fun c : Str × (List D × V) => (c.1, c.2.2)) (fun _ => rfl), List.map_map]; rfl
        rw [ev]
        refine l.ok _ _ _ G1 _ ((st1.trans st2).trans (A2.stpF hp)) (A2.laidF hp trivial) (.lst upd_same ?_) q1
        rw [eb, List.map_map]
        refine reps_of fun c hc => ?_
        have hm : c ∈ cs := by
          unfold byText at hc
          exact (List.mem_mergeSort).mp hc
        exact ((hcs c hm).mono st2.le).mono (Le.upd (A2.fnone hp))
end
end DL
end
section
set_option maxRecDepth 100000
set_option maxHeartbeats 1000000
/-! A lambda without parameters handed to a def that calls it. -/
namespace DL
open PySem PySem.Spec PyProof.Rows L2 LamX
section
variable {X : Cx} {pins : List (Addr × Obj)} {σ : L2.St} {H : Hp} {s : Shared}
/-- a(), in the def that got the lambda at f -/
theorem pe_act2 {CXg : CXT} {Eg : XK} {Ng : List Str} {qg : Str} {sg : Scope} {g f c' : Addr} {cdg : Value} {params : Arguments} {body : Expr} {scope : Scope} {k i : Nat} {a : Str} {pn : List (Addr × Obj)} {xe : Value → Shared → Prop} {W : WX} {tb : XK → TE} {p1 p2 : Pos}
    (I : Inv X pins σ H s) (L : LamS X.env.scope scope) (hbind : ∀ pm ctv : Value, bindArgs (PySem.W.kla_fn "<lambda>" (X.env.qual ++ "<lambda>") params body scope (cloFrom X.env.cells scope.names []) pm (.ref c') ctv) ⟨[], []⟩ = pure [])
    (tk : Takes ((cxOf CXg X.prog X.w X.K X.mg X.base Ng qg sg g cdg X.A X.stack s H Eg).tr pn xe) W) (hr : Room (k + 1) (X.A.deeper (envOfC qg sg s.heap.objs.size g cdg)))
    (hbody : ∀ (E : XK) (A : Around) (outer : List Env) (s : Shared) (H : Hp), Room k (A.deeper (lamEnv X scope s.heap.objs.size f c')) → PE (lamCx X A outer s H E scope f c') body (tb E))
    (hN : Ng[i]? = some a) (hv : Vis sg a) (hd : (a == ("__debug__" : Str)) = false) (hcd : (a == ("__classdict__" : Str)) = false) :
    PE ((cxOf CXg X.prog X.w X.K X.mg X.base Ng qg sg g cdg X.A X.stack s H Eg).tr pn xe) (.Call (.Name a p1) [] [] p2)
      (fun σZ HZ Q => σZ[i]? = some (some (.ref f)) ∧ HZ f = some (LamO f (X.env.qual ++ "<lambda>") params body scope (cloFrom X.env.cells scope.names []) c') ∧ HZ c' = some (CodeO c' (X.env.qual ++ "<lambda>")) ∧ tb (WE W σZ) σ HZ Q) := by
  refine ⟨fun pinsZ sZ σZ HZ Q IZ h => ?_⟩
  obtain ⟨hs, hfo, hc, ht⟩ := h
  refine wpAny_Call_Name_kw (thn ((pe_var (pos := p1) (i := i) hN hv hd hcd).run pinsZ sZ σZ HZ (fun v H1 => v = .ref f ∧ H1 = HZ) IZ ⟨.ref f, hs, rfl, rfl⟩) fun u s1 ⟨v, H1, I1, r1, q1⟩ => ?_)
  obtain ⟨ev, eH⟩ := q1
  subst ev
  rw [eH] at I1
  obtain rfl : u = Value.ref f := r1
  obtain ⟨⟨pm, ctv, of1⟩, _, _⟩ := I1.hok f _ hfo
  refine PySem.W.callWith_F0 ⟨_, _, _, _, of1⟩ ?_
  have un : Un (frs X.stack) [] H HZ s.heap s1.heap := I1.base
  obtain ⟨⟨oc, vs, t, hoc, hdc, hvc⟩, _, _⟩ := I1.hok c' _ hc
  have rc : codeAny (model X.prog X.w) (X.A.deeper (envOfC qg sg s.heap.objs.size g cdg)) (.call (.ref f) ⟨[], []⟩) (CR (L2.CX X.prog X.w) (envOfC qg sg s.heap.objs.size g cdg :: X.stack) X.prog X.w HZ s1 Q (WE W σZ)) s1 := by
    refine PySem.W.kla_callFunE hr.depth of1 rfl L.co L.gen rfl ⟨c', oc, vs, t, rfl, hoc, hdc, hvc⟩ ?_
    rw [hbind]
    refine wpAny_pure (wpAny_newFunctionEnv (fun y hy => (L.own y hy).2) (fun y hy => absurd hy (by simp)) (fun h₁ hns hsb => ⟨I1.nolimit.fresh _ hsb, ?_⟩) L.kind)
    show codeAny _ _ (.expr body (lamEnv X scope s1.heap.objs.size f c')) _ _
    have kp : ∀ b o, s1.heap.get? b = some o → h₁.get? b = some o := fun b o e => hsb.extBut b o (Nat.ne_of_lt (Heap.lt_size e)) (Heap.get?_push_of_some _ e)
    have J : Inv (lamCx X (X.A.deeper (envOfC qg sg s.heap.objs.size g cdg)) (envOfC qg sg s.heap.objs.size g cdg :: X.stack) s1 HZ (WE W σZ) scope f c') [] σ HZ { s1 with heap := h₁, toks := s1.toks + ([] : List (Str × Value)).length } :=
      lam_start2 I L I1.env0 hr.hd un hns kp
    refine PySem.W.kla_codeExpr (wpAny_mono ((hbody _ _ _ s1 HZ (hr.deeper _)).run [] _ _ HZ Q J ht) (fun v s' hq => ?_) fun e s' hq => hq)
    obtain ⟨w', H', J', rv, q⟩ := hq
    exact ⟨w', H', J'.os, J'.bare, J'.base, J'.hok, rv, q⟩
  have hx := passAt tk σZ
  refine wpAny_call (codeAny_mono rc fun r s' hq => ?_)
  cases r with
  | error e => exact hx pinsZ HZ s1 e s' I1 hq
  | ok fl =>
    cases fl with
    | ret u => exact I1.after hq
    | next => exact False.elim hq
    | brk => exact False.elim hq
    | cont => exact False.elim hq
end
/-- try: act() / except (A, B, C): return True; return False: what it makes of what act does -/
def TRef (m : Value → Option Bool) (tl : XK → Hp → VK → Prop) (H : Hp) (Q : VK) : Prop := tl (fun cls _ H' => m cls = some true ∧ Q (.bl true) H') H (fun _ H' => Q (.bl false) H')
/-- the def that does so -/
structure Refuser (K : PySem.W.Frag) (mg : Str → Option Value) (x : Str) (cs : List Value) : Prop where
  ex : ∃ (g : Addr) (fd : FuncData) (sg : Scope) (params : Arguments) (pt p1 p2 p3 p4 p5 p6 p7 p8 p9 p10 p11 p12 : Pos) (n1 n2 n3 : Str) (k0 k1 k2 : Nat) (c1 c2 c3 : Value), mg x = some (.ref g) ∧
    FunD K x x params [.Try [.Expr (.Call (.Name "act" p1) [] [] p2) p3] [.ExceptHandler (some (.Tuple [.Name n1 p4, .Name n2 p5, .Name n3 p6] k0 pt)) none [.Return (some (.Constant (.bool true) k1 p7)) p8] p9] [] [] p10, .Return (some (.Constant (.bool false) k2 p11)) p12] sg [] [] g fd ∧
    FnScope ["act"] ["act"] sg ∧ Vis sg "act" ∧ Binds K fd ["act"] [] ∧ cs = [c1, c2, c3] ∧ (∀ X : Cx, X.env.scope = sg → X.mg = mg → Names X n1 c1 ∧ Names X n2 c2 ∧ Names X n3 c3)
def dRefused (K : PySem.W.Frag) (P : Addr) (q : Str) (cs : List Value) (tb : TDE) : TDE := fun s G Q _ => G P = some (.tab q) ∧ tb s G (fun _ G' => Q (.bl false) G') (fun cls _ _ G' => PySem.W.exmAny K cls cs = some true ∧ Q (.bl true) G')
/-- _law_is_refused(lambda: body) -/
theorem de_refused' {X : Cx} {W : WX} {x : Str} {cs : List Value} {c P : Addr} {k : Nat} {params : Arguments} {body : Expr} {scope : Scope} {p lpos pos : Pos} {tb : TDE} (RF : Refuser X.K X.mg x cs) (TB : TabB X.base X.mg c P) (hcode : X.env.code = .ref c) (hr : Room (k + 2) X.A)
    (hb : ∀ (E : XK) (A : Around) (outer : List Env) (s : Shared) (H : Hp) (f c' : Addr), Room k (A.deeper (lamEnv X scope s.heap.objs.size f c')) → DE (lamCx X A outer s H E scope f c') (fun cls d _ H' => E cls d H') body tb)
    (hg : Gl X x := by rfl) (L : lamSB X.env.scope scope = true := by decide +kernel) (hdef : defaultsOf params X.env = ([], []) := by rfl)
    (hbind : ∀ (q : Str) (cl : List (Str × Addr)) (pm cv ctv : Value), bindArgs (PySem.W.kla_fn "<lambda>" q params body scope cl pm cv ctv) ⟨[], []⟩ = pure [] := by intros; rfl) (hdb : (x == ("__debug__" : Str)) = false := by decide) :
    DE X W (.Call (.Name x p) [.Lambda params body scope lpos] [] pos) (dRefused X.K P (X.env.qual ++ "<lambda>") cs tb) := by
  refine ⟨fun pins s σ H Q I h => ?_⟩
  obtain ⟨F, s0, G, QD, ED, A, S, ⟨hP, h⟩, l⟩ := h
  obtain ⟨g, fd, sg, pg, pt, p1, p2, p3, p4, p5, p6, p7, p8, p9, p10, p11, p12, n1, n2, n3, k0, k1, k2, c1, c2, c3, hm, Fu, Sg, hva, hbi, rfl, hn⟩ := RF.ex
  obtain ⟨oc, od, dV, kV, doc, pm, an, cdv, ct, osl, rfl, lk, hcd, _, _⟩ := Fu.ex
  have hL := lamS_by L
  have tab : TabS H P (X.env.qual ++ "<lambda>") := (A.obj P _ hP).2
  refine wpAny_Call_Name_kw (ld_glob I hg hm ?_ hdb)
  refine PySem.W.callWith_K (h₀ := X.base) I.ok.mod.kin Fu.kp ?_ (by rfl) (by rfl)
  show wpAny _ _ (spliced ((false, eval (.Lambda params body scope lpos) X.env) :: backTo pos (starEach [] X.env))) _ _ s
  refine Calls.spliced_cons (lam_made I TB hcode tab hdef (hL.has I.ok) fun f c' H1 s' I1 st => ?_)
  refine Calls.spliced_nil ⟨I1.kIn, ?_⟩
  obtain ⟨A1, stp⟩ := lam_abs A hP st
  obtain ⟨H', hH', _, hc', hf', rfl⟩ := st
  have hcf : c' ≠ f := ne_of_none hc' hf'
  have rc : codeAny (model X.prog X.w) X.A (.call (.ref g) ⟨[.ref f], []⟩) (CR C8.CX0 X.stack X.prog X.w (upd H' f (LamO f (X.env.qual ++ "<lambda>") params body scope (cloFrom X.env.cells scope.names []) c')) s' Q C8.E0) s' := by
    refine run_ofS (N := ["act"]) (ps := ["act"]) (us := [.ref f]) (vs := [.ref f]) lk hcd Sg hr.toRoom I1.env0 (hbi s' [.ref f] I1.kIn rfl) (.cons rfl .nil) rfl fun _ => ?_
    obtain ⟨m1, m2, m3⟩ := hn (cxOf C8.CX0 X.prog X.w X.K X.mg X.base ["act"] x sg g cdv X.A X.stack s' (upd H' f (LamO f (X.env.qual ++ "<lambda>") params body scope (cloFrom X.env.cells scope.names []) c')) C8.E0).nox rfl rfl
    refine ⟨_, PSs.nox (pss_cons (ps_try_test (Wout := fun _ _ _ _ => False) rfl rfl (tests_three m1 m2 m3) LamX.takes0 (fun W pn xe tk _ => pss_one (ps_expr (pe_act2 (CXg := C8.CX0) (Eg := C8.E0) (i := 0) (tb := fun E => liftE X.K (fun cls d _ H' => E cls d H') tb) I1 hL (fun pm ctv => hbind _ _ pm _ ctv) tk (hr.deeper _) (fun E A outer s H hr2 => hb E A outer s H f c' hr2) rfl hva rfl rfl))) (fun a oe cls d pn _ _ => pss_one (ps_ret pe_bl))) (pss_one (ps_ret pe_bl))), ?_⟩
    refine ⟨rfl, upd_same, by rw [upd_ne hcf]; exact hc', ?_⟩
    refine ⟨F, s0, G, _, _, A1, S, h, ⟨fun F2 H2 d2 G2 v st2 A2 r2 q2 => ?_, fun F2 H2 cls dx fs s2 G2 st2 A2 S2 rx q2 => ?_⟩⟩
    · exact l.ok F2 H2 (.bl false) G2 (.bl false) (stp.trans st2) A2 (.bl _) q2
    · obtain ⟨e2, q2⟩ := q2
      exact ⟨true, e2, fun _ a _ => l.ok F2 H2 (.bl true) G2 (.bl true) (stp.trans st2) A2 (.bl _) q2, fun z => by cases z⟩
  refine wpAny_call (codeAny_mono rc fun r s2 hq => ?_)
  cases r with
  | error e => exact (show False from hq).elim
  | ok fl =>
    cases fl with
    | ret u => exact I1.after hq
    | next => exact False.elim hq
    | brk => exact False.elim hq
    | cont => exact False.elim hq
theorem de_refused {X : Cx} {W : WX} {K : PySem.W.Frag} {x : Str} {cs : List Value} {c P : Addr} {k : Nat} {params : Arguments} {body : Expr} {scope : Scope} {p lpos pos : Pos} {tb : TDE} {q : Str} (RF : Refuser K X.mg x cs) (TB : TabB X.base X.mg c P) (hcode : X.env.code = .ref c) (hr : Room (k + 2) X.A)
    (hb : ∀ (E : XK) (A : Around) (outer : List Env) (s : Shared) (H : Hp) (f c' : Addr), Room k (A.deeper (lamEnv X scope s.heap.objs.size f c')) → DE (lamCx X A outer s H E scope f c') (fun cls d _ H' => E cls d H') body tb)
    (hK : X.K = K := by rfl) (hq : X.env.qual ++ "<lambda>" = q := by rfl) (hg : Gl X x := by rfl) (L : lamSB X.env.scope scope = true := by decide +kernel) (hdef : defaultsOf params X.env = ([], []) := by rfl)
    (hbind : ∀ (q : Str) (cl : List (Str × Addr)) (pm cv ctv : Value), bindArgs (PySem.W.kla_fn "<lambda>" q params body scope cl pm cv ctv) ⟨[], []⟩ = pure [] := by intros; rfl) (hdb : (x == ("__debug__" : Str)) = false := by decide) :
    DE X W (.Call (.Name x p) [.Lambda params body scope lpos] [] pos) (dRefused K P q cs tb) := by
  subst hK hq
  exact de_refused' RF TB hcode hr hb hg L hdef hbind hdb
end DL
end
section
set_option maxRecDepth 100000
/-! Defs that raise nothing, called where an exception may be handled. -/
namespace DL
open PySem PySem.Spec PyProof.Rows L2
/-- room, whatever is handled; no repr under way -/
structure RoomH (k : Nat) (A : Around) : Prop where
  dp : A.depth + 3 * k + 5 < recursionLimit
  un : A.units + 16 * k + 200 < cLine
  gu : A.guards = some []
section
variable {k : Nat} {A : Around}
theorem RoomH.mono {j : Nat} (r : RoomH k A) (h : j ≤ k) : RoomH j A := ⟨by have := r.dp; omega, by have := r.un; omega, r.gu⟩
theorem RoomH.deeper (r : RoomH (k + 1) A) (env : Env) : RoomH k (A.deeper env) := ⟨by have := r.dp; show A.depth + 1 + 3 * k + 5 < _; omega, by have := r.un; show A.units + 3 + 16 * k + 200 < _; omega, r.gu⟩
theorem RoomH.in1 (r : RoomH (k + 1) A) : RoomH k A.in1 := ⟨by have := r.dp; show A.depth + 3 * k + 5 < _; omega, by have := r.un; show A.units + 1 + 16 * k + 200 < _; omega, r.gu⟩
theorem RoomH.depth (r : RoomH k A) : A.depth < recursionLimit := by have := r.dp; omega
theorem RoomH.units (r : RoomH k A) : A.units + 64 < cLine := by have := r.un; omega
theorem roomH_of (r : Room k A) : RoomH k A := ⟨r.dp, r.un, r.gu⟩
theorem roomH_mark {h : Option Value} (r : RoomH k A) : RoomH k (A.mark h) := ⟨r.dp, r.un, r.gu⟩
end
/-- the context of such a def's body -/
def cxC (P : Program) (w : World) (K : PySem.W.Frag) (mg : Str → Option Value) (base : Heap) (N : List Str) (qual : Str) (scope : Scope) (f : Addr) (cd : Value) (A : Around) (outer : List Env) (s : Shared) (H : Hp) : Cx :=
  { cxOf C8.CX0 P w K mg base N qual scope f cd A outer s H C8.E0 with calm := false, xe := fun _ _ => False }
/-- what a def promises that raises nothing, wherever it is called -/
structure FnC (P : Program) (w : World) (K : PySem.W.Frag) (mg : Str → Option Value) (base : Heap) (k : Nat) (f : Addr) (fd : FuncData) (ps : List Str) (sp : SpD) : Prop where
  len : ∀ ds G Q E, sp ds G Q E → ds.length = ps.length
  run : ∀ (A : Around) (outer : List Env) (s : Shared) (H : Hp) (args : Args) (us : List Value) (vs : List V) (Q : VK), RoomH k A → Env0 P w K mg base A outer s H → BindsTo s fd args (ps.zip us) → Vals vs us → liftSp K sp vs H Q C8.E0 →
    codeAny (model P w) A (.call (.ref f) args) (CR C8.CX0 outer P w H s Q C8.E0) s
section
variable {P : Program} {w : World} {K : PySem.W.Frag} {mg : Str → Option Value} {base : Heap}
theorem inv_startC {N ps : List Str} {qual : Str} {scope : Scope} {f : Addr} {cd : Value} {A : Around} {outer : List Env} {s s1 : Shared} {H : Hp} {us : List Value} {vs : List V}
    (S : FnScope N ps scope) (e0 : Env0 P w K mg base A outer s H) (hl : vs.length = ps.length) (r : Vals vs us)
    (x : InCallC s s.heap.objs.size (bindL (envOfC qual scope s.heap.objs.size f cd).kindOf (ps.zip us) fun _ => none) (cellsFrom (s.heap.objs.size + 1) scope.names []) (bindC (envOfC qual scope s.heap.objs.size f cd).kindOf (ps.zip us) fun _ => none) s1) :
    Inv (cxC P w K mg base N qual scope f cd A outer s H) [] (L2.start N vs) H s1 := by
  have e1 : Env0 P w K mg base { A with handled := none } outer s H := ⟨e0.frames, e0.mod, e0.bs, e0.bsz, e0.funs, e0.frf, e0.hok, e0.bare⟩
  have J := inv_start (CX := C8.CX0) (E := C8.E0) (cd := cd) (A := { A with handled := none }) S rfl e1 hl r x
  have ok := J.ok
  exact ⟨⟨ok.mod, ok.kind, ok.glob, ok.blt, ok.above, ok.inj, ok.has, ok.cab, (fun z => absurd (show false = true from z) Bool.false_ne_true), Around.frames_deeper e0.frames, ok.stk, ok.exf, ok.bs, ok.bsz, ok.noex, ok.exfs, ok.funs, ok.frf⟩,
    J.os, J.bare, J.base, J.loc, J.cell, J.free, J.freeC, J.pin, J.hok, J.len⟩
/-- THE RULE for such a def -/
theorem fun_okC {x qual : Str} {params : Arguments} {body : List Stmt} {scope : Scope} {dvs : List V} {kws : List (Str × V)} {f : Addr} {fd : FuncData} {N ps : List Str} {k : Nat} {sp : SpD} {t : TDS} (Fu : FunD K x qual params body scope dvs kws f fd) (S : FnScope N ps scope)
    (len : ∀ ds G Q E, sp ds G Q E → ds.length = ps.length)
    (hb : ∀ (cdv : Value) (A : Around) (outer : List Env) (s : Shared) (H : Hp), RoomH k (A.deeper (envOfC qual scope s.heap.objs.size f cdv)) → DSs (cxC P w K mg base N qual scope f cdv A outer s H) W0 body t)
    (hp : ∀ ds G Q E, sp ds G Q E → t { endsOf K Q E with ex := noX } (startD N ds) G) : FnC P w K mg base (k + 1) f fd ps sp := by
  refine ⟨len, fun A outer s H args us vs Q hr e0 hbi r hsp => ?_⟩
  obtain ⟨oc, od, dV, kV, doc, pm, an, cdv, ct, osl, rfl, lk, hcd, _, _⟩ := Fu.ex
  obtain ⟨F, G, ds, QD, ED, A1, rr, q, l1, l2⟩ := hsp
  have hl : vs.length = ps.length := by rw [← rr.length]; exact len _ _ _ _ q
  have KX : K.In s.heap := e0.mod.kin.keeps fun b o e => (e0.bs b o e).1
  have lim : s.heap.NoLimit := e0.mod.nolimit.keeps fun b o e => (e0.bs b o e).1
  have hkind : ∀ y ∈ ps.zip us, scope.names.lookup y.1 = some .local ∨ (scope.names.lookup y.1 = some .cell ∧ ((cellsFrom (s.heap.objs.size + 1) scope.names []).lookup y.1).isSome = true) := fun ⟨n, v⟩ hy => by
    rcases S.par n (List.of_mem_zip hy).1 with q | q
    · exact .inl q
    · exact .inr ⟨q, PySem.W.cellsFrom_some _ _ _ (.inl q)⟩
  refine codeAny_call_function hr.depth (KX _ _ lk) rfl S.co S.gen rfl (PySem.W.codeRec_of KX hcd) (hbi _ _ _ _ ?_)
  refine wpAny_newFunctionEnv_cells S.kind hkind fun env he s1 x => ?_
  subst he
  refine ⟨lim.keeps x.toInCall.keep, codeAny_func ?_⟩
  have I : Inv (cxC P w K mg base N qual scope f cdv A outer s H) [] (L2.start N vs) H s1 := inv_startC S e0 hl r x
  have fin0 : ∀ F' H' d G' v, Stp F H G F' H' G' → AbsH K F' H' G' → Rep K F' d v → retD K QD d G' → Q v H' := fun F' H' d G' v st A' r' ⟨d2, G2, c, q2⟩ => by
    obtain ⟨F2, st2, A2, r2⟩ := c F' H' v A' r'
    exact l1 F2 H' d2 G2 v (st.trans st2) A2 r2 q2
  have hq : liftS K W0 t { nx := fun _ H' => Q .non H', rt := Q } (L2.start N vs) H :=
    ⟨F, startD N ds, G, _, A1, slots_start rr, hp ds G QD ED q, ⟨fun F' H' s' G' σ' st A' S' q' => fin0 F' H' .non G' .non st A' .non q', fin0, fun _ _ _ _ _ _ _ _ q' => q'.elim, fun _ _ _ _ _ _ _ _ q' => q'.elim, fun _ _ _ _ _ _ _ _ _ _ _ _ z => z.elim⟩⟩
  refine wpAny_mono ((hb cdv A outer s H (hr.deeper _)).run [] s1 (L2.start N vs) H _ I hq) (fun fl s' hs => ?_) fun e s' hs => False.elim hs
  have fin : ∀ {σ' : L2.St} {H' : Hp} {v : V} {u : Value}, Inv (cxC P w K mg base N qual scope f cdv A outer s H) [] σ' H' s' → L2.RelV v u → Q v H' → CE outer P w H s Q u s' :=
    fun {σ' H' v u} J rv q => ⟨v, H', J.os, J.bare, J.base, J.hok, rv, q⟩
  cases fl with
  | ret u =>
    obtain ⟨v, σ', H', J, rv, q⟩ := hs
    exact fin J rv q
  | next =>
    obtain ⟨σ', H', J, q⟩ := hs
    exact fin (v := V.non) (u := Value.none) J rfl q
  | brk =>
    obtain ⟨_, _, _, q⟩ := hs
    exact False.elim q
  | cont =>
    obtain ⟨_, _, _, q⟩ := hs
    exact False.elim q
/-- it is one of the others -/
theorem FnC.ok {k : Nat} {f : Addr} {fd : FuncData} {ps : List Str} {sp : SpD} (F : FnC P w K mg base k f fd ps sp) (hE : ∀ ds G Q E E', sp ds G Q E → sp ds G Q E') : FnD P w K mg base k f fd ps sp := by
  refine ⟨fun vs H Q E h => ?_, fun A outer s H args us vs Q E hr e0 hb r h => ?_⟩
  · obtain ⟨_, _, ds, _, _, _, rr, q, _⟩ := h
    rw [← rr.length]; exact F.len _ _ _ _ q
  · obtain ⟨F0, G, ds, QD, ED, A1, rr, q, l1, l2⟩ := h
    refine codeAny_mono (F.run A outer s H args us vs Q (roomH_of hr) e0 hb r ⟨F0, G, ds, QD, fun _ _ _ => False, A1, rr, hE _ _ _ _ _ q, l1, fun _ _ _ _ _ _ _ _ _ z => z.elim⟩) fun r' s' hq => ?_
    cases r' with
    | error e => exact (show False from hq).elim
    | ok fl =>
      cases fl with
      | ret u => exact hq
      | next => exact False.elim hq
      | brk => exact False.elim hq
      | cont => exact False.elim hq
end
/-- what a caller knows of a property that raises nothing -/
structure KnowsPC (P : Program) (w : World) (K : PySem.W.Frag) (mg : Str → Option Value) (base : Heap) (C : Addr) (f : Str) (k : Nat) (sp : SpD) : Prop where
  ex : ∃ p g fd ps, PropOf K C f p g ∧ FnC P w K mg base k g fd ps sp ∧ Binds K fd ps []
section
variable {X : Cx} {W : WX} {k : Nat} {C : Addr} {f : Str} {o : Expr} {pos : Pos} {to : TDE} {sp : SpD}
theorem de_propC (c : Cls X.K C) (kn : KnowsPC X.prog X.w X.K X.mg X.base C f k sp) (hr : RoomH (k + 1) X.A) (ho : DE X W o to) (hab : attributeBase o f X.env (eval o X.env) = eval o X.env := by rfl) : DE X W (.Attribute o f pos) (dProp C sp to) := by
  obtain ⟨p, g, fd, ps, hp, F, hb⟩ := kn.ex
  refine ⟨fun pins s σ H Q I h => ?_⟩
  obtain ⟨F0, s0, G, QD, ED, A, S, t, l⟩ := h
  refine attr_of hab (thn (ho.run pins s σ H (fun x H1 => ∃ a dx fs, x = .ref a ∧ H1 a = some (.ins C dx fs) ∧ liftSp X.K sp [.ref a] H1 Q C8.E0) I ⟨F0, s0, G, _, ED, A, S, t, ⟨fun F1 H1 d1 G1 x st1 A1 r1 q1 => ?_, l.ex⟩⟩) fun u s1 ⟨x, H1, I1, rx, a, dx, fs, ex, ea, q⟩ => ?_)
  · obtain ⟨fs, hi, q1⟩ := q1
    obtain ⟨a, dx, fs', rfl, ea, rs⟩ := rep_ins A1 r1 hi
    exact ⟨a, dx, fs', rfl, ea, F1, G1, [d1], QD, _, A1, .cons r1 .nil, q1, (l.mono st1).ok, fun _ _ _ _ _ _ _ _ _ z => z⟩
  · subst ex
    obtain rfl : u = Value.ref a := rx
    obtain ⟨mA, O, _, _, _, _⟩ := ins_get I1.hok ea
    obtain ⟨od, J, _⟩ := O.look
    obtain ⟨rest, hrec⟩ := hp.rec_
    have I2 := I1.tok (s1.toks + 1)
    have hl : ([Value.ref a] ++ ([] : List Value)).length = ps.length := by
      obtain ⟨_, _, ds, _, _, _, rr, q', _⟩ := q
      have e1 := F.len _ _ _ _ q'
      rw [← e1, rr.length]
      rfl
    have hc : (PySem.W.clsIn X.K C).isSome = true := by
      obtain ⟨cd, hc, _⟩ := PySem.W.any_some c.hd
      rw [hc]
      rfl
    refine PySem.W.get_bind I1.kIn J (PySem.W.plainGet_of (c.get f)).1 (PySem.W.findObj_data hc hp.at_ hp.get hp.tak) (PySem.W.plainGet_of (c.get f)).2 (wpAny_call (PySem.W.prop_get (s := { s1 with toks := s1.toks + 1 }) I1.kIn hrec ?_))
    refine codeAny_mono (F.run X.A.in1 X.stack { s1 with toks := s1.toks + 1 } H1 ⟨[.ref a], []⟩ [.ref a] [.ref a] Q hr.in1 I2.env0.in1 (hb _ [.ref a] I2.kIn hl) (.cons rfl .nil) q) fun r s' hq => ?_
    cases r with
    | error er => exact (show False from hq).elim
    | ok fl =>
      cases fl with
      | ret u =>
        obtain ⟨v, H', I3, rv, q3⟩ := I2.after hq
        show wpAny _ _ (handedOut u) _ _ _
        rw [PySem.W.handedOut_of (handed_of rv)]
        exact wpAny_pure ⟨v, H', I3, rv, q3⟩
      | next => exact False.elim hq
      | brk => exact False.elim hq
      | cont => exact False.elim hq
end
end DL
end
section
set_option maxRecDepth 100000
/-! repr of data. -/
namespace DL
open PySem PySem.Spec PyProof.Rows L2
mutual
theorem toPy_nodict : ∀ {d : D} {p : PyData}, toPy d = some p → p.hasDict = false
  | .non, _, e => by cases e; rfl
  | .bl b, _, e => by cases e; rfl
  | .int i, _, e => by cases e; rfl
  | .str x, _, e => by cases e; rfl
  | .tup ds, p, e => by
    unfold toPy at e
    cases q : toPys ds with
    | none => rw [q] at e; cases e
    | some ps => rw [q] at e; cases e; simp only [PyData.hasDict]; exact toPys_nodict q
  | .lst ds, p, e => by
    unfold toPy at e
    cases q : toPys ds with
    | none => rw [q] at e; cases e
    | some ps => rw [q] at e; cases e; simp only [PyData.hasDict]; exact toPys_nodict q
  | .ref _, _, e => by unfold toPy at e; cases e
  | .ty _, _, e => by unfold toPy at e; cases e
  | .dict _, _, e => by unfold toPy at e; cases e
  | .ins _ _, _, e => by unfold toPy at e; cases e
  | .scr _, _, e => by unfold toPy at e; cases e
theorem toPys_nodict : ∀ {ds : List D} {ps : List PyData}, toPys ds = some ps → PyData.hasDictAll ps = false
  | [], _, e => by unfold toPys at e; cases e; rfl
  | d :: ds, ps, e => by
    unfold toPys at e
    cases q : toPy d with
    | none => rw [q] at e; cases e
    | some p =>
      rw [q] at e
      cases q2 : toPys ds with
      | none => rw [q2] at e; cases e
      | some ps => rw [q2] at e; cases e; simp only [PyData.hasDictAll, toPy_nodict q, toPys_nodict q2, Bool.or_self]
end
theorem pyOf_nodict {d : D} {G : GD} {p : PyData} (h : pyOf d G = some p) : p.hasDict = false := by
  unfold pyOf at h
  split at h
  · split at h
    · rename_i ds e
      cases q : toPys ds with
      | none => rw [q] at h; cases h
      | some ps => rw [q] at h; cases h; simp only [PyData.hasDict]; exact toPys_nodict q
    · cases h
  · exact toPy_nodict h
/-- the text of some data -/
def reprR : RCD := fun ds G Q => ∃ d p, ds = [d] ∧ pyOf d G = some p ∧ p.showable = true ∧ p.depth ≤ 60 ∧ p.shown.length ≤ sizeLine ∧ Q (.str p.shown) G
theorem repr_okD {X : Cx} (hg : X.A.guards = some []) (hu : X.A.units + 64 < cLine) : CallR X (.builtin "repr") (liftC X.K reprR) := by
  intro pins s σ H xs us Q I r h
  obtain ⟨F, G, ds, QD, A, rs, ⟨d, p, rfl, hp, hs, hd, hz, t⟩, l⟩ := h
  obtain ⟨v, rfl, r1⟩ := reps1 rs
  obtain ⟨u, rfl, ru⟩ := vals1 r
  obtain ⟨as, R⟩ := Dp.reads I p v u (dpG_of A r1 hp) ru
  have fin : ∀ h' t' tk, (∀ b o, s.heap.get? b = some o → h'.get? b = some o) → EP X pins σ Q (.str p.shown tk) { s with heap := h', toks := t' } := fun h' t' tk k =>
    ⟨.str p.shown, H, I.kept (t' := t') k, ⟨_, rfl⟩, l F H _ G _ (.refl F H G) A (.str _) t⟩
  have keep : ∀ b o, s.heap.get? b = some o → s.heap.get? b = some o := fun _ _ e => e
  cases R with
  | none => exact PySem.P.repr_of_none (fin s.heap _ _ keep)
  | bool b => exact PySem.P.repr_of_bool (by have z := fin s.heap (s.toks + 1) s.toks keep; cases b <;> exact z)
  | int i tk => exact PySem.P.repr_of_int (of_decide_eq_true hs) (fin s.heap _ _ keep)
  | str x tk => exact PySem.P.repr_of_str (fin s.heap _ _ keep) hz
  | list h1 h2 h3 h4 => exact repr_of_reads' (.list h1 h2 h3 h4) hs (PyData.noDict_hsm (pyOf_nodict hp)) hg (by omega) keep (fun h' u tk k => fin h' tk u k) hz
  | tuple h1 h2 h3 h4 => exact repr_of_reads' (.tuple h1 h2 h3 h4) hs (PyData.noDict_hsm (pyOf_nodict hp)) hg (by omega) keep (fun h' u tk k => fin h' tk u k) hz
  | dict h1 h2 h3 h4 h5 => exact absurd (pyOf_nodict hp) (by simp [PyData.hasDict])
end DL
end
section
set_option maxRecDepth 100000
/-! The index in a tuple of texts, pop, a list some times, three names set at once. -/
namespace DL
open PySem PySem.Spec PyProof.Rows L2
section
variable {X : Cx}
/-- tuple(a list): the new one's object is seen to have no dict -/
theorem call_tuple_frz : CallR X (.type "tuple") (fun xs H Q => ∃ p ys, xs = [.ref p] ∧ SqL X.K H p ys ∧ ∀ l (ob : Obj), H l = none → ob.dict = none → Q (.ref l) (upd H l (.frz ob (.tup ys)))) := by
  intro pins s σ H xs us Q I r h
  obtain ⟨p, ys, rfl, hq, q⟩ := h
  obtain ⟨u, rfl, rx⟩ := vals1 r
  cases rx
  obtain ⟨its, rv, pl, hz⟩ := I.list hq
  have hl := rv.length
  refine call_tuple_list pl.isList (fun h' kp => ?_) (by rw [List.size_toArray]; omega)
  have I1 : Inv X pins σ H { s with heap := h' } := I.kept (t' := s.toks) kp
  refine ⟨.ref h'.objs.size, _, I1.laid (t' := s.toks) (a := h'.objs.size) (o := .frz { cls := .type "tuple", data := .seq its.toArray } (.tup ys)) (fun b o e => Heap.get?_push_of_some _ e) (Nat.le_refl _) ⟨Heap.get?_push_size _ rfl, hz, its, rv, IsTup.new _ _⟩, rfl, q _ _ (I1.hok.fresh (Nat.le_refl _)) rfl⟩
def tupleNR : RCD := fun ds G Q => ∃ xs, ds = [.lst xs] ∧ ∀ p, G p = none → Q (.ref p) (put G p (.tup xs))
theorem tupleN_okD : CallR X (.type "tuple") (liftC X.K tupleNR) := by
  intro pins s σ H xs us Q I r h
  refine call_tuple_frz pins s σ H xs us Q I r ?_
  obtain ⟨F, G, ds, QD, A, rs, ⟨ys, rfl, t⟩, l⟩ := h
  obtain ⟨v, rfl, r1⟩ := reps1 rs
  cases r1 with
  | lst h1 rv =>
    exact ⟨_, _, rfl, A.sqL h1, fun p ob hp hd => l F _ _ _ _ (stp_new hp) (A.laidG (g := .tup ys) hp ⟨_, ob, upd_same, hd, rv⟩) (.ref p) (t p (A.gnone hp))⟩
end
/-! ### t.index(text) -/
def dIndex (to : TDE) (te : TDA) : TDE := fun s G Q E => to s G (fun d G1 => ∃ a, ∃ ys : List Str, d = .ref a ∧ G1 a = some (.tup (ys.map D.str)) ∧ te s G1 (fun ds G2 => ∃ z j, ds = [.str z] ∧ G2 a = some (.tup (ys.map D.str)) ∧ ys[j]? = some z ∧ (∀ m, m < j → ys[m]? ≠ some z) ∧ Q (.int (j : Nat)) G2) E) E
theorem reps_txts {K : PySem.W.Frag} {F : Hp} : ∀ {ys : List Str} {vs : List V}, Reps K F (ys.map D.str) vs → vs = ys.map V.str
  | [], _, h => by cases h; rfl
  | y :: ys, _, h => by
    cases h with
    | cons r t => cases r; rw [reps_txts t]; rfl
section
variable {X : Cx} {W : WX} {o e : Expr} {to : TDE} {ta : TDA} {apos pos : Pos}
theorem pe_tidx {tvo : TE} {t : TA} {r : V → List V → Hp → VK → Prop} (hm : MtR X "tuple.index" r) (ho : PE X o tvo) (ha : PA X [e] t) (hbase : attributeBase o "index" X.env (eval o X.env) = eval o X.env)
    (hfew : ((backTo pos (starEach [e] X.env)).all (fun x => !x.1) && (backToKw pos (keywordEach [] X.env)).all (fun x => x.1.isSome)
      && decide ([e].length + ([] : List Keyword).length + (if ([] : List Keyword).isEmpty then 0 else 1) < 30)) = true)
    (hline : (apos.endLine == pos.line) = true) (hs : starEach [e] X.env = (false, eval e X.env) :: starEach [] X.env) (hplain : (backTo pos (starEach [] X.env)).any (·.1) = false) :
    PE X (.Call (.Attribute o "index" apos) [e] [] pos) (fun σ H Q => tvo σ H fun x H1 => (∃ a ob xs, x = .ref a ∧ H1 a = some (.frz ob (.tup xs)) ∧ ob.dict = none) ∧ t σ H1 fun xs H2 => r x xs H2 Q) := by
  refine ⟨fun pins s σ H Q I h => ?_⟩
  refine wpAny_Call_method_late hbase hfew hline rfl (thn (ho.run pins s σ H _ I h) fun v s1 ⟨x, H1, I1, r1, ⟨a, ob, xs, ex, ea, hd⟩, q1⟩ => ?_)
  subst ex
  cases r1
  obtain ⟨hg, hz, its, rv, o2, ho2, hc, n, hdt⟩ := (show ObjOk X.prog X.w H1 s1.heap a (.frz ob (.tup xs)) from I1.hok a _ ea)
  refine ⟨"tuple", "tuple.index", PySem.F.plainAttrs_tuple, PySem.F.slot_tuple_index, PySem.F.type_tuple_index, ⟨o2, ho2, hc⟩, fun b eb => by cases eb; exact ⟨ob, hg, hd⟩, ?_⟩
  have hA := ha.run pos pins s1 σ H1 _ I1 q1
  rw [hs] at hA ⊢
  refine Calls.callWith_builtin (by show (false || (backTo pos (starEach [] X.env)).any (·.1)) = false; rw [hplain] <;> rfl) (Calls.evalArgs_plain ?_)
  exact thn hA fun us s2 ⟨vs, H2, I2, r2, q2⟩ => hm pins s2 σ H2 (.ref a) vs (.ref a) us Q I2 rfl r2 q2
theorem de_index (ho : DE X W o to) (ha : DA X W [e] ta) (hbase : attributeBase o "index" X.env (eval o X.env) = eval o X.env := by rfl)
    (hfew : ((backTo pos (starEach [e] X.env)).all (fun x => !x.1) && (backToKw pos (keywordEach [] X.env)).all (fun x => x.1.isSome)
      && decide ([e].length + ([] : List Keyword).length + (if ([] : List Keyword).isEmpty then 0 else 1) < 30)) = true := by rfl)
    (hline : (apos.endLine == pos.line) = true := by rfl) (hs : starEach [e] X.env = (false, eval e X.env) :: starEach [] X.env := by rfl) (hplain : (backTo pos (starEach [] X.env)).any (·.1) = false := by rfl) :
    DE X W (.Call (.Attribute o "index" apos) [e] [] pos) (dIndex to ta) := PE.imp (pe_tidx mt_tup_index ho ha hbase hfew hline hs hplain) fun σ H Q q => by
  obtain ⟨F, s, G, QD, ED, A, S, t, l⟩ := q
  refine ⟨F, s, G, _, ED, A, S, t, ⟨fun F1 H1 d1 G1 x st1 A1 r1 q1 => ?_, l.ex⟩⟩
  obtain ⟨a, ys, rfl, hg, q1⟩ := q1
  cases r1
  obtain ⟨_, xs, ob, ea, hd, rs⟩ := A1.obj a _ hg
  refine ⟨⟨a, ob, xs, rfl, ea, hd⟩, F1, s, G1, _, ED, A1, S.mono st1.le, q1, ⟨fun F2 H2 ds G2 vs st2 A2 r2 q2 => ?_, (l.mono st1).ex⟩⟩
  obtain ⟨z, j, rfl, hg2, hy, hno, q2⟩ := q2
  obtain ⟨v, rfl, rz⟩ := reps1 r2
  cases rz
  obtain ⟨_, xs2, ob2, ea2, _, rs2⟩ := A2.obj a _ hg2
  refine ⟨a, ys, z, j, rfl, rfl, ?_, hy, hno, l.ok _ _ _ _ _ (st1.trans st2) A2 (.int _) q2⟩
  rw [← reps_txts rs2]
  exact .inl (.inr ⟨ob2, ea2⟩)
/-! ### pop, times, three at once -/
theorem de_pop (ho : DE X W o to) (hbase : attributeBase o "pop" X.env (eval o X.env) = eval o X.env := by rfl) (hline : (apos.endLine == pos.line) = true := by rfl) : DE X W (.Call (.Attribute o "pop" apos) [] [] pos) (dPop to) :=
  PE.imp (pe_bm0 PySem.F.plainAttrs_list PySem.F.slot_list_pop PySem.F.type_list_pop mt_pop ho hbase hline) fun σ H Q q => by
    obtain ⟨F, s, G, QD, ED, A, S, t, l⟩ := q
    refine ⟨F, s, G, _, ED, A, S, t, ⟨fun F1 H1 d1 G1 x st1 A1 r1 q1 => ?_, l.ex⟩⟩
    obtain ⟨a, xs, v, rfl, h0, q1⟩ := q1
    cases r1
    obtain ⟨_, us, eh, rs⟩ := A1.obj a _ h0
    obtain ⟨us0, u, rfl, r0, ru⟩ : ∃ us0 u, us = us0 ++ [u] ∧ Reps X.K F1 xs us0 ∧ Rep X.K F1 v u := by
      clear q1 eh h0
      induction xs generalizing us with
      | nil => obtain ⟨u, rfl, ru⟩ := reps1 rs; exact ⟨[], u, rfl, .nil, ru⟩
      | cons y ys ih =>
        cases rs with
        | cons ry rt =>
          obtain ⟨us0, u, e, r0, ru⟩ := ih _ rt
          exact ⟨_ :: us0, u, by rw [e]; rfl, .cons ry r0, ru⟩
    refine ⟨ty_list A1 h0, a, _, u, rfl, rfl, eh, by simp, ?_⟩
    rw [List.dropLast_concat]
    exact l.ok _ _ _ _ _ (st1.trans (A1.stpW h0)) (A1.write (g' := .lst xs) h0 ⟨_, upd_same, r0⟩) ru q1
def repR : R2D := fun x y G Q => match x, y with
  | .lst xs, .int k => 0 ≤ k ∧ k < 2 ^ 20 ∧ xs.length * k.toNat ≤ sizeLine ∧ Q (.lst (List.replicate k.toNat xs).flatten) G
  | _, _ => False
theorem reps_rep {K : PySem.W.Frag} {F : Hp} {xs : List D} {vs : List V} (r : Reps K F xs vs) : ∀ k : Nat, Reps K F (List.replicate k xs).flatten (List.replicate k vs).flatten
  | 0 => .nil
  | k + 1 => by
    rw [List.replicate_succ, List.replicate_succ, List.flatten_cons, List.flatten_cons]
    exact r.append (reps_rep r k)
theorem de_rep {a b : Expr} {ta tb : TDE} (ha : DE X W a ta) (hb : DE X W b tb) : DE X W (.BinOp a .Mult b pos) (dOp repR ta tb) := de_op op_rep (fun x y H Q q => by
  obtain ⟨F, G, d1, d2, QD, A, r1, r2, t, l⟩ := q
  unfold repR at t
  split at t
  · obtain ⟨h0, h1, hz, t⟩ := t
    cases r2
    cases r1 with
    | lst ha rv =>
      have hl := rv.length
      exact ⟨_, _, _, rfl, rfl, A.lstH ha, by omega, by omega, by rw [← hl]; exact hz, fun p hp => l _ _ _ G _ (A.stpF hp) (A.laidF hp trivial) (.lst upd_same ((reps_rep rv _).mono (Le.upd (A.fnone hp)))) t⟩
  · exact t.elim) ha hb
def sPar3 (i j k : Nat) (ta : TDA) : TDS := fun D s G => ta s G (fun ds G1 => match ds with
  | [d, d', d''] => D.nx (((s.set i (some d)).set j (some d')).set k (some d'')) G1
  | _ => False) D.ex
theorem ds_par3 {i j k : Nat} {x y z : Str} {a b c : Expr} {px py pz pt : Pos} {kt k2 pt2} (hc : X.calm = true) (hN : X.N.Nodup) (hi : X.N[i]? = some x) (hj : X.N[j]? = some y) (hk : X.N[k]? = some z) (hij : (i ≠ j ∧ i ≠ k) ∧ j ≠ k)
    (hx : X.env.scope.names.lookup x = some .local) (hy : X.env.scope.names.lookup y = some .local) (hz : X.env.scope.names.lookup z = some .local) (ha : DA X W [a, b, c] ta)
    (hw : swappedStores [.Tuple [.Name x px, .Name y py, .Name z pz] kt pt] (.Tuple [a, b, c] k2 pt2) X.env = pure (some [x, y, z]))
    (hs : swapsWithSole [.Tuple [.Name x px, .Name y py, .Name z pz] kt pt] (.Tuple [a, b, c] k2 pt2) pos.line X.env = pure false := by rfl) :
    DS X W (.Assign [.Tuple [.Name x px, .Name y py, .Name z pz] kt pt] (.Tuple [a, b, c] k2 pt2) pos) (sPar3 i j k ta) := PS.imp (ps_par3 hc hN hi hj hk hij.1.1 hij.1.2 hij.2 hx hy hz ha hw hs) fun Dn σ H q => by
  obtain ⟨F, s, G, DD, A, S, t, l⟩ := q
  refine ⟨F, s, G, _, _, A, S, t, ⟨fun F1 H1 ds G1 vs st1 A1 r1 q1 => ?_, fun F1 H1 c dx fs s' G' st A' S' => l.ex F1 H1 c dx fs s' G' σ st A' S'⟩⟩
  split at q1
  · cases r1 with
    | cons r1 t1 =>
      cases t1 with
      | cons r2 t2 =>
        cases t2 with
        | cons r3 t3 => cases t3; exact ⟨_, _, _, rfl, l.nx F1 H1 _ G1 _ st1 A1 ((((S.mono st1.le).set r1).set r2).set r3) q1⟩
  · exact q1.elim
end
end DL
end
section
set_option maxRecDepth 100000
/-! A dict of the module: texts to ints, never changed. -/
namespace DL
open PySem PySem.Spec PyProof.Rows L2
structure KnowsD (K : PySem.W.Frag) (w : World) (mg : Str → Option Value) (x : Str) (kvs : List (Str × Int)) : Prop where
  ex : ∃ d es n, mg x = some (.ref d) ∧ KDict K w d es n ∧ Paired (fun (kv : Str × Int) (e : DictEntry) => ∃ t t', e.key = .str kv.1 t ∧ e.val = .int kv.2 t') kvs es.toList ∧ (kvs.map (·.1)).Nodup ∧
    ∀ kv ∈ kvs, ∃ t, PySem.W.nsIn K d kv.1 = some (some (.int kv.2 t))
def dKGet (kvs : List (Str × Int)) (ti : TDE) : TDE := fun s G Q E => ti s G (fun d G1 => ∃ z v, d = .str z ∧ (z, v) ∈ kvs ∧ Q (.int v) G1) E
def dKList (kvs : List (Str × Int)) : TDE := fun s G Q _ => Q (.lst (kvs.map fun kv => .str kv.1)) G
section
variable {X : Cx} {W : WX} {x : Str} {kvs : List (Str × Int)} {i : Expr} {ti : TDE} {p pos : Pos}
theorem de_kget (kn : KnowsD X.K X.w X.mg x kvs) (hi : DE X W i ti) (hg : Gl X x := by rfl) (hs : NoSl i := by exact fun _ _ => rfl) (hdb : (x == ("__debug__" : Str)) = false := by decide) : DE X W (.Subscript (.Name x p) i pos) (dKGet kvs ti) := by
  obtain ⟨d, es, n, hm, D, _, _, hv⟩ := kn.ex
  refine ⟨fun pins s σ H Q I h => ?_⟩
  obtain ⟨F, s0, G, QD, ED, A, S, t, l⟩ := h
  refine subD_of PySem.F.slot_dict_getitem.lookup hs (ld_glob I hg hm (thn (hi.run pins s σ H (fun y H1 => ∃ z v, y = .str z ∧ (z, v) ∈ kvs ∧ Q (.int v) H1) I ⟨F, s0, G, _, ED, A, S, t, ⟨fun F1 H1 d1 G1 x st1 A1 r1 q1 => ?_, l.ex⟩⟩) fun u s1 ⟨y, H1, I1, ry, z, v, ey, hz, q⟩ => ?_) hdb)
  · obtain ⟨z, v, rfl, hz, q1⟩ := q1
    cases r1
    exact ⟨z, v, rfl, hz, l.ok F1 H1 _ G1 _ st1 A1 (.int _) q1⟩
  · subst ey
    obtain ⟨tv, e⟩ := hv _ hz
    refine ⟨kd_type D I1, op_item_kd D pins s1 σ H1 (.ref d) (.str z) (.ref d) u Q I1 rfl ry ⟨z, _, .int v, rfl, rfl, e, ⟨tv, rfl⟩, q⟩⟩
theorem kd_at {s : Shared} {H : Hp} {pins : List (Addr × Obj)} {σ : L2.St} {d : Addr} {es : Array DictEntry} {n : Nat} (D : KDict X.K X.w d es n) (I : Inv X pins σ H s) (pr : Paired (fun (kv : Str × Int) (e : DictEntry) => ∃ t t', e.key = .str kv.1 t ∧ e.val = .int kv.2 t') kvs es.toList) (nd : (kvs.map (·.1)).Nodup) :
    ∃ vs : List (Str × Value), vs.map (·.1) = kvs.map (·.1) ∧ s.heap.DictAt (PySem.strKind X.prog X.w) d vs n := by
  obtain ⟨ob, es', ep', ho, hx, hd, hk, _⟩ := PySem.W.mapOf_K (prog := X.prog) I.kIn D.at_ D.lit
  have e0 := I.kIn _ _ D.at_
  rw [ho] at e0
  cases e0
  cases hd
  have key : ∀ {l : List DictEntry} {kvs : List (Str × Int)}, Paired (fun (kv : Str × Int) (e : DictEntry) => ∃ t t', e.key = .str kv.1 t ∧ e.val = .int kv.2 t') kvs l → ∃ vs : List (Str × Value), vs.map (·.1) = kvs.map (·.1) ∧ Pairs (PySem.strKind X.prog X.w) l vs := by
    intro l kvs pr
    induction pr with
    | nil => exact ⟨[], rfl, .nil⟩
    | @cons kv e _ _ h _ ih =>
      obtain ⟨t, t', h1, h2⟩ := h
      obtain ⟨vs, e1, e2⟩ := ih
      exact ⟨(kv.1, e.val) :: vs, by simp [e1], .cons (by rw [h1]; exact PySem.strKind_is X.prog X.w kv.1 t) rfl e2⟩
  obtain ⟨vs, e1, e2⟩ := key pr
  exact ⟨vs, e1, _, es, ho, hx, rfl, hk, e2, by rw [e1]; exact nd⟩
/-- list(d): its keys -/
theorem call_klist {d : Addr} {es : Array DictEntry} {n : Nat} (hc : X.calm = true) (D : KDict X.K X.w d es n) (pr : Paired (fun (kv : Str × Int) (e : DictEntry) => ∃ t t', e.key = .str kv.1 t ∧ e.val = .int kv.2 t') kvs es.toList) (nd : (kvs.map (·.1)).Nodup) (hz : kvs.length ≤ sizeLine) :
    CallR X (.type "list") (fun xs H Q => xs = [.ref d] ∧ ∀ q, H q = none → Q (.ref q) (upd H q (.lst (kvs.map fun kv => V.str kv.1)))) := by
  intro pins s σ H xs us Q I r h
  obtain ⟨rfl, h⟩ := h
  obtain ⟨u, rfl, rx⟩ := vals1 r
  cases rx
  obtain ⟨vs, ek, hat⟩ := kd_at D I pr nd
  have hlen : kvs.length = vs.length := by have := congrArg List.length ek; simpa using this.symm
  refine PySem.W.kdl_call (PySem.W.kdl_dict (knd := PySem.strKind X.prog X.w) (kvs := vs) (ep := n) D.low) (I.ok.hd hc) hat (by rw [← hlen]; exact hz) fun h' tk acc' c' hkeep hS hacc => ?_
  refine ⟨.ref s.heap.objs.size, upd H s.heap.objs.size (.lst (kvs.map fun kv => V.str kv.1)), I.laid hkeep (Nat.le_refl _) (show ObjOk X.prog X.w _ _ _ (.lst (kvs.map fun kv => V.str kv.1)) from ⟨by rw [List.length_map]; exact hz, acc'.toList, c', ?_, hS⟩), rfl, h _ (I.hok.fresh (Nat.le_refl _))⟩
  refine vals_of_at (by rw [List.length_map, hlen, ← hacc.1]; exact (Array.length_toList).symm) fun j x w h1 h2 => ?_
  obtain ⟨k, y, hky, hi⟩ := hacc.2 j w (by rw [← Array.getElem?_toList]; exact h2)
  have e1 : (kvs.map (·.1))[j]? = some k := by rw [← ek, List.getElem?_map, hky] <;> rfl
  rw [List.getElem?_map] at h1 e1
  cases hk : kvs[j]? with
  | none => rw [hk] at h1; cases h1
  | some kv =>
    rw [hk] at h1 e1
    cases h1
    have e1 : kv.1 = k := Option.some.inj e1
    obtain ⟨t, rfl⟩ := Value.isStrOf_shape (show Value.isStrOf k w = true from hi)
    exact ⟨t, by rw [e1]⟩
theorem de_klist {p2 : Pos} (hl : X.mg "list" = none) (kn : KnowsD X.K X.w X.mg x kvs) (hz : kvs.length ≤ sizeLine := by decide) (hc : X.calm = true := by rfl) (hgl : Gl X "list" := by rfl) (hg : Gl X x := by rfl) (hdb : (x == ("__debug__" : Str)) = false := by decide) :
    DE X W (.Call (.Name "list" p) [.Name x p2] [] pos) (dKList kvs) := by
  obtain ⟨d, es, n, hm, KD, pr, nd, _⟩ := kn.ex
  refine PE.imp (pe_callTy (call_klist hc KD pr nd hz) hgl hl (by decide +kernel : bootBuiltins "list" = some (.type "list")) (pa_cons (pe_glob hg hm (show RelV (.ref d) (.ref d) from rfl) hdb) pa_nil) (by decide) (by decide)) fun σ H Q q => ?_
  obtain ⟨F, s, G, QD, ED, A, S, t, l⟩ := q
  refine ⟨rfl, fun p hp => l.ok _ _ (.lst (kvs.map fun (kv : Str × Int) => D.str kv.1)) G _ (A.stpF hp) (A.laidF hp trivial) (.lst upd_same ?_) t⟩
  have key : ∀ l : List (Str × Int), Reps X.K (upd F p (.lst (kvs.map fun kv => V.str kv.1))) (l.map fun kv => D.str kv.1) (l.map fun kv => V.str kv.1) := fun l => by
    induction l with
    | nil => exact .nil
    | cons a l ih => exact .cons (.str _) ih
  exact key kvs
end
end DL
end
section
set_option maxRecDepth 100000
/-! A dict comprehension bound to a name on its own line. -/
namespace DL
open PySem PySem.Spec PyProof.Rows L2
section
variable {X : Cx} {W : WX} {i : Nat} {y : Str} {py pos spos : Pos} {kx vx tg iter : Expr} {scope : Scope} {own : List (Str × Nat)} {t : TDI} {g : TDG} {tk tv : TDE}
theorem swd_true {gs : List Comprehension} {l : Nat} {env : Env} (hk : env.scope.kind = .function) (hy : env.scope.names.lookup y = some .local) (hl : (py.line == pos.line) = true)
    (ha : (scope.names.any fun (n, k) => n == y && (k == .local || k == .cell)) = false) : swapsWith (.DictComp kx vx gs scope pos) (some (.Name y py)) l env = pure true := by
  have h1 : env.kindOf y = some .local := hy
  have h2 : env.blockKind = .function := by unfold Env.blockKind; rw [hk]; rfl
  unfold swapsWith
  simp only [h2, h1, ha, Expr.pos, hl]
  rfl
theorem ps_setDc {wi : TI} {gV : TG} {tt : TT} {tkV tvV : TE} (hc : X.calm = true) (hN : X.N.Nodup) (hy : X.N[i]? = some y) (hyl : X.env.scope.names.lookup y = some .local)
    (hsw : swapsWith (.DictComp kx vx [⟨tg, iter, [], 0⟩] scope pos) (some (.Name y py)) spos.line X.env = pure true) (hi : PI X tg iter wi) (ok : BlkOk X.N X.env.scope scope own)
    (hg : ∀ (s : Shared) (H : Hp) (C : Addr) (cl : List (Str × Addr)) (fp : List Addr), PG (X.blk s H scope (compEnvC scope cl C X.env) fp) tg gV) (ht : ∀ (s : Shared) (H : Hp) (C : Addr) (cl : List (Str × Addr)) (fp : List Addr), PTs (X.blk s H scope (compEnvC scope cl C X.env) fp) [] tt)
    (hk : ∀ (s : Shared) (H : Hp) (C : Addr) (cl : List (Str × Addr)) (fp : List Addr), PE (X.blk s H scope (compEnvC scope cl C X.env) fp) kx tkV)
    (hv : ∀ (s : Shared) (H : Hp) (C : Addr) (cl : List (Str × Addr)) (fp : List Addr), PE (X.blk s H scope (compEnvC scope cl C X.env) fp) vx tvV) (hs : ∀ x, foldedSetIterable iter X.env x = pure x) :
    PS X (.Assign [.Name y py] (.DictComp kx vx [⟨tg, iter, [], 0⟩] scope pos) spos) (tAsg (tDc wi gV tt tkV tvV (own.map (·.2))) (gName i)) := by
  refine ⟨fun pins s σ H D I h => ?_⟩
  rw [exec_Assign_Name_used _ _ _ _ hsw]
  refine wpAny_bind (wpAny_standAt (wpAny_bind ?_))
  show wpAny _ X.A (do let _ ← comprehension (.DictComp kx vx [⟨tg, iter, [], 0⟩] scope pos) scope X.env (firstIterPos [⟨tg, iter, [], 0⟩] pos) newDict false (eval iter X.env) (some (assign (.Name y py) X.env))) _ _ s
  have h : tDc wi gV tt tkV tvV (own.map (·.2)) σ H (fun x H1 => gName i x σ H1 D.nx) := h
  refine wpAny_bind (thn (dc_core (Qf := fun _ s' => SP X pins D .next s') hc hN I hi ok hg ht hk hv hs h fun L C s' m H' I' q hn f => ?_) fun _ s' hq => wpAny_pure (wpAny_pure hq))
  show wpAny _ _ (assign (.Name y py) X.env (.ref L)) _ _ _
  obtain ⟨f0, f1, f2, f3, f4, f5⟩ := f
  refine wpAny_assign_Name (store_ok2 (v := V.ref L) I' hN hy (.inl hyl) rfl (fun s2 I2 ⟨a, sb, ha⟩ => ?_) (.inr hyl))
  have ne : C ≠ a := by
    rcases ha with z | z
    · rw [z]; exact f1
    · exact fun e => f4 y a z e.symm
  exact ⟨m, hn.sameBut sb ne, fun h3 sb3 => ⟨_, H', I2.turned (t' := s2.toks) (fun b o hb e => (sb3.2 b hb).trans e) f0 f1 f3 f4 f5, q⟩⟩
/-- y = {.. for ..} on one line -/
theorem ds_setDc (hc : X.calm = true) (hN : X.N.Nodup) (hy : X.N[i]? = some y) (hyl : X.env.scope.names.lookup y = some .local)
    (hsw : swapsWith (.DictComp kx vx [⟨tg, iter, [], 0⟩] scope pos) (some (.Name y py)) spos.line X.env = pure true) (b : BlkDc X W kx vx tg iter scope own t g tk tv) (hs : ∀ x, foldedSetIterable iter X.env x = pure x := by intro _; rfl) :
    DS X W (.Assign [.Name y py] (.DictComp kx vx [⟨tg, iter, [], 0⟩] scope pos) spos) (sAsg (dDc t g tk tv (own.map (·.2))) (gNm i)) :=
  PS.imp (ps_setDc (own := own) (gV := liftGw X.K (own.map Prod.snd) g) (tt := liftT X.K W0 dYes) (tkV := liftE X.K W0 tk) (tvV := liftE X.K W0 tv) hc hN hy hyl hsw b.hi b.ok b.hg (fun _ _ _ _ _ => dts_nil) b.hk b.hv hs) fun _ _ _ q => dc_imp (set_lift q)
end
end DL
end
section
set_option maxRecDepth 100000
/-! What the proofs of the defs use. -/
namespace DL
open PySem PySem.Spec PyProof.Rows L2 LamX
theorem ret {K : PySem.W.Frag} {Q : KD} {d : D} {G : GD} (q : Q d G) : retD K Q d G := ⟨d, G, .refl, q⟩
theorem exc {E : XP} {cls : Value} {fs : List (Str × D)} {s : SD} {G : GD} (q : E cls fs G) : exD E cls fs s G := ⟨G, .refl G, q⟩
theorem names_cls {X : Cx} {x : Str} {c : Value} (hm : X.mg x = some c) (hg : Gl X x := by rfl) (hd : (x == ("__debug__" : Str)) = false := by decide) : Names X x c := ⟨hg, hd, .inl hm⟩
theorem tkl {X : Cx} {A : Around} {outer : List Env} {s : Shared} {H : Hp} {E : XK} {scope : Scope} {f c : Addr} : Takes (lamCx X A outer s H E scope f c) (fun cls d _ H' => E cls d H') := takes_of rfl rfl rfl rfl
theorem de_sortedKeyQ {X : Cx} {W : WX} {c P : Addr} {x q : Str} {e : Expr} {te : TDE} {params : Arguments} {scope : Scope} {p pos lpos kpos p1 p2 p3 : Pos} {j : Nat} (hm : X.mg "sorted" = none) (TB : TabB X.base X.mg c P) (hcode : X.env.code = .ref c) (hr : Room 4 X.A) (he : DE X W e te)
    (hq : X.env.qual ++ "<lambda>" = q := by rfl) (hg : Gl X "sorted" := by rfl) (hS : lam1B x scope = true := by decide +kernel) (hdef : defaultsOf params X.env = ([], []) := by rfl)
    (hbind : ∀ (q : Str) (pm cv ctv v : Value), bindArgs (PySem.W.kla_fn "<lambda>" q params (.Subscript (.Name x p1) (.Constant (.int 0) j p2) p3) scope [] pm cv ctv) ⟨[v], []⟩ = pure [(x, v)] := by intros; rfl) (hx : (x == ("__debug__" : Str)) = false := by decide)
    (hs : backTo pos (starEach [e] X.env) = (false, eval e X.env) :: backTo pos (starEach [] X.env) := by rfl) (hpl : (backTo pos (starEach [e] X.env)).any (·.1) = false := by rfl) :
    DE X W (.Call (.Name "sorted" p) [e] [⟨some "key", .Lambda params (.Subscript (.Name x p1) (.Constant (.int 0) j p2) p3) scope lpos, kpos⟩] pos) (dSortKey P q te) := by
  subst hq
  exact de_sortedKey hm TB hcode hr he hg hS hdef hbind hx hs hpl
section
variable {P : Program} {w : World} {K : PySem.W.Frag} {mg : Str → Option Value} {base : Heap}
/-- a def that makes lambdas: its code object is known -/
theorem fun_okL {x qual : Str} {params : Arguments} {body : List Stmt} {scope : Scope} {dvs : List V} {kws : List (Str × V)} {f c : Addr} {fd : FuncData} {N ps : List Str} {k : Nat} {sp : SpD} {t : TDS} (Fu : FunD K x qual params body scope dvs kws f fd) (hc : fd.code = .ref c) (S : FnScope N ps scope)
    (len : ∀ ds G Q E, sp ds G Q E → ds.length = ps.length)
    (hb : ∀ (A : Around) (outer : List Env) (s : Shared) (H : Hp) (E : XK), Room k (A.deeper (envOfC qual scope s.heap.objs.size f (.ref c))) →
      DSs (cxOf (L2.CX P w) P w K mg base N qual scope f (.ref c) A outer s H E) (fun cls d _ H' => E cls d H') body t)
    (hp : ∀ ds G Q E, sp ds G Q E → t (endsOf K Q E) (startD N ds) G) : FnD P w K mg base (k + 1) f fd ps sp := by
  obtain ⟨oc, od, dV, kV, doc, pm, an, cdv, ct, osl, rfl, lk, hcd, d1, d2⟩ := Fu.ex
  obtain rfl : cdv = .ref c := hc
  refine ⟨fun vs H Q E h => ?_, fun A outer s H args us vs Q E hr e0 hb1 r hsp => ?_⟩
  · obtain ⟨F, G, ds, QD, ED, A, r, q, _⟩ := h
    rw [← r.length]
    exact len _ _ _ _ q
  · obtain ⟨F, G, ds, QD, ED, A1, rr, q, l1, l2⟩ := hsp
    have hl : vs.length = ps.length := by rw [← rr.length]; exact len _ _ _ _ q
    refine LamX.run_ofS lk hcd S hr.toRoom e0 hb1 r hl fun _ => ⟨_, hb A outer s H E (hr.deeper _), ?_⟩
    have fin : ∀ F' H' d G' v, Stp F H G F' H' G' → AbsH K F' H' G' → Rep K F' d v → retD K QD d G' → Q v H' := fun F' H' d G' v st A' r' ⟨d2, G2, c, q2⟩ => by
      obtain ⟨F2, st2, A2, r2⟩ := c F' H' v A' r'
      exact l1 F2 H' d2 G2 v (st.trans st2) A2 r2 q2
    refine ⟨F, startD N ds, G, _, A1, slots_start rr, hp ds G QD ED q, ⟨fun F' H' s' G' σ' st A' S' q' => fin F' H' .non G' .non st A' .non q', fin, fun _ _ _ _ _ _ _ _ q' => q'.elim, fun _ _ _ _ _ _ _ _ q' => q'.elim, ?_⟩⟩
    intro F' H' cls dx fs s' G' σ' st A' S' rx ⟨G2, le, q2⟩
    exact l2 F' H' cls dx fs G2 (st.trans (stp_less le)) (A'.less le) rx q2
/-- the rule for a def's promise, of a def without defaults -/
theorem kn_of' {x q2 : Str} {st : Stmt} {f : Addr} {fd : FuncData} {ps : List Str} {k : Nat} {sp : SpD} (hm : mg x = some (.ref f)) (Fu : FunD K x q2 (defArgs st) (defBody st) (defScope st) [] [] f fd) (F : FnD P w K mg base k f fd ps sp)
    (hb : ∀ (kV doc pm : Value) (an : Option Addr) (cdv ct : Value) (us : List Value), us.length = ps.length → bindArgs (PySem.W.fnOf x q2 (defArgs st) (defBody st) (defScope st) .none kV doc pm an cdv ct) ⟨us, []⟩ = pure (ps.zip us)) :
    Knows P w K mg base x k [] sp := kn_of hm Fu F hb
end
end DL
end
section
set_option maxRecDepth 100000
/-! How the readings of comprehensions and loops are gone through. -/
namespace DL
open PySem PySem.Spec PyProof.Rows
open L2 hiding Room FnOk takes0
section
variable {g : TDG} {tt : TDT} {te : TDE} {vs : List Nat} {s : SD} {G : GD}
/-- each item taken to another -/
theorem compD_map (f : D → D) : ∀ {xs acc : List D} {Q : List D → GD → Prop}, (∀ x ∈ xs, ∀ R : KD, R (f x) G → g x (wipeD s vs) G fun s2 G2 => tt s2 G2 (fun b G3 => if b = true then te s2 G3 R noX else False) noX) →
    acc.length + xs.length ≤ sizeLine → (tte : ∀ s2 G2 (K1 K2 : Bool → GD → Prop), (∀ b G3, K1 b G3 → K2 b G3) → tt s2 G2 K1 noX → tt s2 G2 K2 noX) → (gm : ∀ x s2 G2 (K1 K2 : SD → GD → Prop), (∀ s3 G3, K1 s3 G3 → K2 s3 G3) → g x s2 G2 K1 → g x s2 G2 K2) → Q (acc ++ xs.map f) G → compD g tt te vs s xs acc G Q
  | [], acc, Q, _, _, _, _, q => by
    show Q acc G
    simpa using q
  | x :: xs, acc, Q, h, hl, tm, gm, q => by
    rw [List.length_cons] at hl
    refine gm _ _ _ _ _ (fun s3 G3 k => tm _ _ _ _ (fun b G4 k2 => ?_) k) (h x List.mem_cons_self (fun y G4 => acc.length < sizeLine ∧ compD g tt te vs s xs (acc ++ [y]) G4 Q) ⟨by omega, compD_map f (fun y hy => h y (List.mem_cons_of_mem _ hy)) (by simp; omega) tm gm (by simpa using q)⟩)
    cases b with
    | true => exact k2
    | false => exact False.elim (by simpa using k2)
/-- the same, without a test and with one name -/
theorem comp1 {i : Nat} (f : D → D) {xs : List D} {Q : List D → GD → Prop} (h : ∀ x ∈ xs, ∀ R : KD, R (f x) G → te ((wipeD s [i]).set i (some x)) G R noX) (hl : xs.length ≤ sizeLine) (q : Q (xs.map f) G) : compD (gNm i) dYes te [i] s xs [] G Q := by
  refine compD_map f (fun x hx R r => ?_) (by simpa using hl) (fun s2 G2 K1 K2 hk k => hk _ _ k) (fun x s2 G2 K1 K2 hk k => hk _ _ k) (by simpa using q)
  show (if true = true then te _ G R noX else False)
  exact ite_tt (h x hx R r)
/-- with a test -/
theorem comp1If {i : Nat} (p : D → Bool) (f : D → D) : ∀ {xs acc : List D} {Q : List D → GD → Prop}, (∀ x ∈ xs, ∀ (R : KD) (N : GD → Prop), (p x = true → R (f x) G) → (p x = false → N G) → tt ((wipeD s [i]).set i (some x)) G (fun b G3 => if b = true then te ((wipeD s [i]).set i (some x)) G3 R noX else N G3) noX) →
    acc.length + xs.length ≤ sizeLine → Q (acc ++ (xs.filter p).map f) G → compD (gNm i) tt te [i] s xs acc G Q
  | [], acc, Q, _, _, q => by
    show Q acc G
    simpa using q
  | x :: xs, acc, Q, h, hl, q => by
    rw [List.length_cons] at hl
    refine h x List.mem_cons_self (fun y G4 => acc.length < sizeLine ∧ compD (gNm i) tt te [i] s xs (acc ++ [y]) G4 Q) (fun G3 => compD (gNm i) tt te [i] s xs acc G3 Q) (fun e => ⟨by omega, ?_⟩) (fun e => ?_)
    · refine comp1If p f (fun y hy => h y (List.mem_cons_of_mem _ hy)) (by simp; omega) ?_
      rw [List.filter_cons_of_pos e] at q
      simpa using q
    · refine comp1If p f (fun y hy => h y (List.mem_cons_of_mem _ hy)) (by omega) ?_
      rw [List.filter_cons_of_neg (by simp [e])] at q
      exact q
end
/-- over the pairs of two -/
theorem comp2 {te : TDE} {s : SD} {G : GD} {i j : Nat} (f : D → D → D) : ∀ {xs ys acc : List D} {Q : List D → GD → Prop}, (∀ x y, D.tup [x, y] ∈ pairsD xs ys → ∀ R : KD, R (f x y) G → te (((wipeD s [i, j]).set i (some x)).set j (some y)) G R noX) →
    acc.length + (pairsD xs ys).length ≤ sizeLine → Q (acc ++ List.zipWith f xs ys) G → compD (gTp 2 (gsCons (gNm i) (gsCons (gNm j) gsNil))) dYes te [i, j] s (pairsD xs ys) acc G Q
  | [], ys, acc, Q, _, _, q => by
    show Q acc G
    simpa using q
  | _ :: _, [], acc, Q, _, _, q => by
    show Q acc G
    simpa using q
  | x :: xs, y :: ys, acc, Q, h, hl, q => by
    have e : pairsD (x :: xs) (y :: ys) = .tup [x, y] :: pairsD xs ys := rfl
    rw [e] at h hl ⊢
    rw [List.length_cons] at hl
    have z := h x y List.mem_cons_self (fun z G4 => acc.length < sizeLine ∧ compD (gTp 2 (gsCons (gNm i) (gsCons (gNm j) gsNil))) dYes te [i, j] s (pairsD xs ys) (acc ++ [z]) G4 Q) ⟨by omega, comp2 f (fun a b hm => h a b (List.mem_cons_of_mem _ hm)) (by simp; omega) (by simpa using q)⟩
    refine ⟨rfl, ?_⟩
    show (if true = true then te _ G _ noX else compD (gTp 2 (gsCons (gNm i) (gsCons (gNm j) gsNil))) dYes te [i, j] s (pairsD xs ys) acc G Q)
    exact ite_tt z
/-- a loop: an invariant over the items that are left -/
theorem loop_inv {g : TDG} {tb : TDS} {Dn : EndsD} (I : List D → SD → GD → Prop) (hs : ∀ d ds s G, I (d :: ds) s G → ∀ R : SD → GD → Prop, (∀ s' G', I ds s' G' → R s' G') → g d s G fun s1 G1 => tb { Dn with nx := R, ct := R, bk := Dn.nx } s1 G1) (hd : ∀ s G, I [] s G → Dn.nx s G) :
    ∀ {ds : List D} {s : SD} {G : GD}, I ds s G → loopD g tb ds Dn s G
  | [], s, G, h => hd s G h
  | d :: ds, s, G, h => hs d ds s G h _ fun _ _ h' => loop_inv I hs hd h'
/-- the rest of a block, by what holds ahead of it -/
theorem dss_to {X : Cx} {W : WX} {sts : List Stmt} {u : TDS} (J : TDS) (h : DSs X W sts u) (i : ∀ D s G, J D s G → u D s G) : DSs X W sts J := PSs.imp h fun Dn σ H q => by
  obtain ⟨F, s, G, DD, A, S, t, l⟩ := q
  exact ⟨F, s, G, DD, A, S, i _ _ _ t, l⟩
theorem ite_tt' {c : Prop} [Decidable c] {A B : Prop} (h : c) (a : A) : if c then A else B := by rw [if_pos h]; exact a
theorem ite_ff' {c : Prop} [Decidable c] {A B : Prop} (h : ¬ c) (b : B) : if c then A else B := by rw [if_neg h]; exact b
/-- a, b, .. = a list of that length -/
def gLs (n : Nat) (t : TDGs) : TDG := fun d s G Q => match d with
  | .lst xs => xs.length = n ∧ t xs s G Q
  | _ => False
theorem dg_lst {X : Cx} {pos : Pos} {es : List Expr} {k : Nat} {t : TDGs} {n : Nat} (hc : X.calm = true) (h : DGs X es t)
    (hn : (assignEach es X.env).length = n := by rfl) (hst : (assignEach es X.env).findIdx? (·.1) = none := by rfl) : DG X (.Tuple es k pos) (gLs n t) := PG.imp (L2.pg_lst hc h hn hst) fun v σ H Q q => by
  obtain ⟨F, s, G, d, QD, A, S, r, t, l⟩ := q
  cases r with
  | lst h1 rs => exact ⟨_, _, rfl, A.sqL h1, by rw [← rs.length]; exact t.1, F, s, G, _, QD, A, S, rs, t.2, l⟩
  | _ => exact t.elim
def dNever : TDE := fun _ _ _ _ => False
/-- an expression that is never reached -/
theorem de_never {X : Cx} {W : WX} {e : Expr} : DE X W e dNever := ⟨fun pins s σ H Q I q => by
  obtain ⟨F, s, G, QD, ED, A, S, t, l⟩ := q
  exact t.elim⟩
section
variable {α : Type} {g : TDG} {tt : TDT} {te : TDE} {vs : List Nat} {s : SD} {G : GD}
/-- each of some things, as items, taken to another -/
theorem compT (ι f : α → D) : ∀ {us : List α} {acc : List D} {Q : List D → GD → Prop}, (∀ u ∈ us, ∀ R : KD, R (f u) G → g (ι u) (wipeD s vs) G fun s2 G2 => te s2 G2 R noX) → acc.length + us.length ≤ sizeLine → Q (acc ++ us.map f) G → compD g dYes te vs s (us.map ι) acc G Q
  | [], acc, Q, _, _, q => by
    show Q acc G
    simpa using q
  | u :: us, acc, Q, h, hl, q => by
    rw [List.length_cons] at hl
    exact h u List.mem_cons_self (fun y G4 => acc.length < sizeLine ∧ compD g dYes te vs s (us.map ι) (acc ++ [y]) G4 Q) ⟨by omega, compT ι f (fun y hy => h y (List.mem_cons_of_mem _ hy)) (by simp; omega) (by simpa using q)⟩
/-- the same with a test -/
theorem compTIf (p : α → Bool) (ι f : α → D) : ∀ {us : List α} {acc : List D} {Q : List D → GD → Prop}, (∀ u ∈ us, ∀ (R : KD) (N : GD → Prop), (p u = true → R (f u) G) → (p u = false → N G) → g (ι u) (wipeD s vs) G fun s2 G2 => tt s2 G2 (fun b G3 => if b = true then te s2 G3 R noX else N G3) noX) →
    acc.length + us.length ≤ sizeLine → Q (acc ++ (us.filter p).map f) G → compD g tt te vs s (us.map ι) acc G Q
  | [], acc, Q, _, _, q => by
    show Q acc G
    simpa using q
  | u :: us, acc, Q, h, hl, q => by
    rw [List.length_cons] at hl
    refine h u List.mem_cons_self (fun y G4 => acc.length < sizeLine ∧ compD g tt te vs s (us.map ι) (acc ++ [y]) G4 Q) (fun G3 => compD g tt te vs s (us.map ι) acc G3 Q) (fun e => ⟨by omega, ?_⟩) (fun e => ?_)
    · refine compTIf p ι f (fun y hy => h y (List.mem_cons_of_mem _ hy)) (by simp; omega) ?_
      rw [List.filter_cons_of_pos e] at q
      simpa using q
    · refine compTIf p ι f (fun y hy => h y (List.mem_cons_of_mem _ hy)) (by omega) ?_
      rw [List.filter_cons_of_neg (by simp [e])] at q
      exact q
end
/-- a tuple == () -/
def eq0R : R2D := fun x y G Q => ∃ xs, x = .tup xs ∧ y = .tup [] ∧ Q (.bl xs.isEmpty) G
theorem eq0_ok {X : Cx} (hu : X.A.units + 64 < cLine) : OpR X (compareOp .Eq) (lift2 X.K eq0R) := by
  intro pins s σ H x y v u Q I rx ry h
  obtain ⟨F, G, d1, d2, QD, A, r1, r2, t, l⟩ := h
  obtain ⟨xs, rfl, rfl, t⟩ := t
  cases r1 with
  | tup h1 rv1 =>
    cases r2 with
    | tup h2 rv2 =>
      rename_i a vs b ws
      cases rv2
      cases (show v = Value.ref a from rx)
      cases (show u = Value.ref b from ry)
      obtain ⟨us, q1, p1, _⟩ := I.tuple (A.sqT h1)
      obtain ⟨zs, q2, p2, _⟩ := I.tuple (A.sqT h2)
      cases q2
      have q : QD (.bl xs.isEmpty) G := t
      show wpAny _ _ (richCompare .Eq (.ref a) (.ref b)) _ _ _
      refine SeqAt.rcIn_tuples (e := fun _ => true) p1 p2 (by omega) (fun j h1 h2 => by simp at h2) ⟨.bl xs.isEmpty, H, I, ?_, l F H _ G _ (.refl F H G) A (.bl _) q⟩
      have el : xs.length = us.length := by rw [rv1.length, q1.length]
      have e : ((List.range (min us.toArray.size (#[] : Array Value).size)).all (fun _ => true) && us.toArray.size == (#[] : Array Value).size) = xs.isEmpty := by
        cases xs with
        | nil =>
          cases us with
          | nil => rfl
          | cons => cases el
        | cons =>
          cases us with
          | nil => cases el
          | cons => simp
      show Value.bool _ = Value.bool _
      exact congrArg Value.bool e
end DL
end
section
set_option maxRecDepth 100000
set_option maxHeartbeats 1000000
/-! The end of a law whose def is promised where no repr is under way. -/
namespace DL
open PySem PySem.Spec PyProof.Rows
open L2 hiding Room FnOk takes0
open LamX (TabB)
/-- a table that is empty, a list of the script -/
abbrev tabO : Obj := { cls := .none, data := .fields #[] }
abbrev scrO (vs : List Value) : Obj := { cls := .type "list", data := .seq vs.toArray }
/-- the heap at the call: the tables, and the script if K does not know it -/
def startH (K : PySem.W.Frag) (cs : List (Addr × Addr)) (a : Addr) (vs : List Value) (ns : List Int) : Hp := fun b =>
  if b ∈ cs.map Prod.snd then some (.tbl #[]) else if b = a ∧ (K.lookup a).isNone = true then some (.frz (scrO vs) (.lst (ns.map V.int))) else none
section
variable {P : Program} {w : World} {K : PySem.W.Frag} {cs : List (Addr × Addr)} {a : Addr} {vs : List Value} {ns : List Int} {b : Addr}
theorem start_tab (h : b ∈ cs.map Prod.snd) : startH K cs a vs ns b = some (.tbl #[]) := if_pos h
theorem start_cases : (b ∈ cs.map Prod.snd ∧ startH K cs a vs ns b = some (.tbl #[])) ∨ (b ∉ cs.map Prod.snd ∧ b = a ∧ K.lookup a = none ∧ startH K cs a vs ns b = some (.frz (scrO vs) (.lst (ns.map V.int)))) ∨ (b ∉ cs.map Prod.snd ∧ startH K cs a vs ns b = none) := by
  by_cases h1 : b ∈ cs.map Prod.snd
  · exact .inl ⟨h1, if_pos h1⟩
  · by_cases h2 : b = a ∧ (K.lookup a).isNone = true
    · exact .inr (.inl ⟨h1, h2.1, Option.isNone_iff_eq_none.mp h2.2, (if_neg h1).trans (if_pos h2)⟩)
    · exact .inr (.inr ⟨h1, (if_neg h1).trans (if_neg h2)⟩)
theorem law_callD {mg mb : Str → Option Value} {CX : CXT} {k : Nat} {fa : Addr} {fd : FuncData} {x : Str} {sp : Sp} {s1 : Shared} (inK : K.In s1.heap) (hmg : s1.heap.Ns mainGlobals mg) (hmb : s1.heap.Ns builtinsNs mb) (boot : ∀ x : Str, x ≠ "__name__" → mb x = bootBuiltins x)
    (lim : s1.heap.NoLimit) (gens : s1.gens = #[]) (tabs : ∀ p ∈ cs, s1.heap.get? p.2 = some tabO) (outK : ∀ p ∈ cs, K.lookup p.2 = none) (codes : ∀ p ∈ cs, PySem.W.CodeHd s1.heap p.1 p.2)
    (bm : ∃ (m : Addr) (o : Obj), mg "__builtins__" = some (.ref m) ∧ m ≠ builtinsNs ∧ s1.heap.get? m = some o ∧ o.cls = .type "module" ∧ o.dict = some builtinsNs ∧ o.data = .plain)
    (scr : s1.heap.get? a = some (scrO vs)) (hi : IntsAre vs ns) (few : ns.length ≤ sizeLine) (room : Room k callerA)
    (F : ∀ base : Heap, K.In base → base.Ns mainGlobals mg → (∀ p ∈ cs, TabB base mg p.1 p.2) → FnOk P w K mg base CX k fa fd [x] sp) (binds : ∀ (s : Shared) (u : Value), BindsTo s fd ⟨[u], []⟩ [(x, u)])
    (hsp : ∀ H : Hp, (∀ p ∈ cs, H p.2 = some (.tbl #[])) → SqL K H a (ns.map V.int) → sp [.ref a] H (fun v _ => v = .bl true) fun _ _ _ => False) (hCX : ∀ H e s', CX [] H s1 (fun _ _ _ => False) e s' → False) :
    codeAny (model P w) callerA (.call (.ref fa) ⟨[.ref a], []⟩) (fun r s' => r = .ok (.ret (.bool true)) ∧ OldK s1.heap s'.heap ∧ s'.os = s1.os ∧ AllBare s'.gens) s1 := by
  have vals := vals_ints hi
  have atT : ∀ b ∈ cs.map Prod.snd, s1.heap.get? b = some tabO := fun b hb => by
    obtain ⟨p, hp, rfl⟩ := List.mem_map.mp hb
    exact tabs p hp
  have inT : ∀ p ∈ cs, p.2 ∈ cs.map Prod.snd := fun p hp => List.mem_map.mpr ⟨p, hp, rfl⟩
  have aT : a ∉ cs.map Prod.snd := fun z => by
    have e := scr.symm.trans (atT a z)
    have e2 := congrArg Obj.data (Option.some.inj e)
    cases e2
  generalize hH : startH K cs a vs ns = H
  have cas : ∀ b, (b ∈ cs.map Prod.snd ∧ H b = some (.tbl #[])) ∨ (b ∉ cs.map Prod.snd ∧ b = a ∧ K.lookup a = none ∧ H b = some (.frz (scrO vs) (.lst (ns.map V.int)))) ∨ (b ∉ cs.map Prod.snd ∧ H b = none) := fun b => by
    rw [← hH]
    exact start_cases
  have tbl : ∀ p ∈ cs, H p.2 = some (.tbl #[]) := fun p hp => by
    rw [← hH]
    exact start_tab (inT p hp)
  have sq : SqL K H a (ns.map V.int) := by
    rcases cas a with ⟨z, _⟩ | ⟨_, _, _, z⟩ | ⟨_, z⟩
    · exact (aT z).elim
    · exact .inl (.inr ⟨_, z⟩)
    · cases hk : K.lookup a with
      | none =>
        have e : startH K cs a vs ns a = some (.frz (scrO vs) (.lst (ns.map V.int))) := (if_neg aT).trans (if_pos ⟨rfl, by rw [hk]; rfl⟩)
        rw [hH, z] at e
        cases e
      | some o =>
        have eo : o = scrO vs := Option.some.inj ((inK a o hk).symm.trans scr)
        refine .inr ⟨o, vs.toArray, _, hk, ?_, ?_, by rw [eo], ?_, by simpa using vals⟩
        · rw [eo]
        · rw [eo]
        · rw [List.size_toArray, hi.length]
          exact few
  have held : HOk P w H s1.heap := fun b u e => by
    rcases cas b with ⟨z, e2⟩ | ⟨_, rfl, _, e2⟩ | ⟨_, e2⟩
    · rw [e2] at e
      cases e
      exact atT b z
    · rw [e2] at e
      cases e
      exact ⟨scr, by rw [List.length_map]; exact few, vs, _, vals, scr⟩
    · rw [e2] at e
      cases e
  -- what is neither of them is not held
  have off : ∀ {b : Addr} {o : Obj}, s1.heap.get? b = some o → o ≠ tabO → o ≠ scrO vs → H b = none := fun {b o} e n1 n2 => by
    rcases cas b with ⟨z, _⟩ | ⟨_, rfl, _, _⟩ | ⟨_, z⟩
    · exact (n1 (Option.some.inj (e.symm.trans (atT b z)))).elim
    · exact (n2 (Option.some.inj (e.symm.trans scr))).elim
    · exact z
  have dictNs : ∀ {b : Addr} {m : Str → Option Value}, s1.heap.Ns b m → (hidT s1.heap H).Ns b m := fun {b m} h => by
    obtain ⟨o, es, ep, e, hd, r⟩ := h
    exact ⟨o, es, ep, hidT_get e (off e (fun z => by rw [z] at hd; cases hd) fun z => by rw [z] at hd; cases hd), hd, r⟩
  have inB : K.In (hidT s1.heap H) := fun b o e => hidT_get (inK b o e) (by
    rcases cas b with ⟨z, _⟩ | ⟨_, rfl, z, _⟩ | ⟨_, z⟩
    · obtain ⟨p, hp, rfl⟩ := List.mem_map.mp z
      rw [outK p hp] at e
      cases e
    · rw [z] at e
      cases e
    · exact z)
  have md : Mod K mg (hidT s1.heap H) := by
    obtain ⟨mc, l1, l2⟩ := lim
    exact ⟨inB, dictNs hmg, ⟨mb, dictNs hmb, boot⟩, ⟨mc, dictNs l1, l2⟩⟩
  have notMain : ∀ {b : Addr} {o : Obj}, s1.heap.get? b = some o → (∀ es ep, o.data ≠ .dict es ep) → mainGlobals ≠ b := fun {b o} e n z => by
    obtain ⟨o2, es, ep, e2, hd, _⟩ := hmg
    rw [z, e] at e2
    cases e2
    exact n _ _ hd
  have TB : ∀ p ∈ cs, TabB (hidT s1.heap H) mg p.1 p.2 := fun p hp => by
    have tp := tabs p hp
    refine ⟨?_, ?_, notMain tp fun _ _ z => by cases z⟩
    · obtain ⟨o, us, c1, c2, c3, c4, c5, c6, c7, g, r1, r2, r3, more⟩ := codes p hp
      refine ⟨o, us, c1, c2, c3, c4, c5, c6, c7, hidT_get g (off g (fun z => ?_) fun z => ?_), r1, r2, r3, more⟩
      · rw [z] at r2
        have e3 : (#[] : Array Value) = us := by injection r2
        rw [← e3] at r3
        simp at r3
      · rw [z] at r2
        cases r2
    · obtain ⟨m, o, m1, m2, m3, m4, m5, m6⟩ := bm
      refine ⟨m, o, m1, m2, (notMain m3 fun es ep z => by rw [m6] at z; cases z).symm, fun z => ?_, hidT_get m3 (off m3 (fun z => ?_) fun z => ?_), m4, m5, m6⟩
      · rw [z, tp] at m3
        cases m3
        cases m6
      · rw [z] at m6
        cases m6
      · rw [z] at m6
        cases m6
  have env : Env0 P w K mg (hidT s1.heap H) callerA [] s1 H := ⟨rfl, md, fun b o e => of_hidT e, Nat.le_of_eq (hidT_size _ _), trivial, fun b hb => (List.not_mem_nil hb).elim, held, .of_eq gens⟩
  refine codeAny_mono ((F _ inB (dictNs hmg) TB).run callerA [] s1 H ⟨[.ref a], []⟩ [.ref a] [.ref a] _ _ room env (binds s1 (.ref a)) (.cons rfl .nil) (hsp H tbl sq)) fun r s2 h => ?_
  match r, h with
  | .error e, h => exact (hCX H e s2 h).elim
  | .ok .next, h => exact h.elim
  | .ok .brk, h => exact h.elim
  | .ok .cont, h => exact h.elim
  | .ok (.ret u), h =>
    obtain ⟨v, H2, os, bare, un, held2, rv, q⟩ := h
    have q : v = .bl true := q
    subst q
    obtain rfl : u = Value.bool true := rv
    have same : ∀ b o, b ∉ cs.map Prod.snd → s1.heap.get? b = some o → s2.heap.get? b = some o := fun b o nb e => by
      rcases cas b with ⟨z, _⟩ | ⟨_, rfl, _, z⟩ | ⟨_, z⟩
      · exact (nb z).elim
      · have e1 := (held b _ z).1
        have e2 := (held2 b _ (un.frzs b _ _ z)).1
        exact e2.trans (e1.symm.trans e)
      · exact un.keep b o e z (fun y => (List.not_mem_nil y).elim) (fun y => (List.not_mem_nil y).elim)
    have grown : ∀ p ∈ cs, ∃ more : Array Value, s2.heap.get? p.2 = some { cls := .none, data := .fields more } := fun p hp => by
      obtain ⟨more, z⟩ := un.tbls p.2 #[] (tbl p hp)
      exact ⟨_, held2 p.2 _ z⟩
    refine ⟨rfl, ⟨fun b o e => ?_, fun b o e => ?_⟩, os, bare⟩
    · by_cases hb : b ∈ cs.map Prod.snd
      · obtain ⟨p, hp, rfl⟩ := List.mem_map.mp hb
        obtain ⟨more, hm⟩ := grown p hp
        obtain rfl : tabO = o := Option.some.inj ((tabs p hp).symm.trans e)
        refine .inr (.inl ⟨((codes p hp).tab (tabs p hp)).isCodeTable, rfl, #[], more, rfl, ?_⟩)
        rw [Array.empty_append]
        exact hm
      · exact .inl (same b o hb e)
    · by_cases hb : b ∈ cs.map Prod.snd
      · obtain ⟨p, hp, rfl⟩ := List.mem_map.mp hb
        obtain ⟨more, hm⟩ := grown p hp
        exact ⟨_, hm⟩
      · exact ⟨o, same b o hb e⟩
end
/-- what is known of the law at the head's heap -/
def LawD (l : PySem.W.OpenLaw) (w : World) (K : PySem.W.Frag) (CX : CXT) (k n : Nat) (x : Str) (mg : Str → Option Value) (fa : Addr) (h : Heap) : Prop :=
  ∃ (fd : FuncData) (cs : List (Addr × Addr)) (sp : Sp), (∀ p ∈ cs, h.get? p.2 = some tabO) ∧ (∀ p ∈ cs, K.lookup p.2 = none) ∧ (∀ p ∈ cs, PySem.W.CodeHd h p.1 p.2) ∧ (∀ (s : Shared) (u : Value), BindsTo s fd ⟨[u], []⟩ [(x, u)]) ∧
    (∀ (H : Hp) (a : Addr) (ns : List Int), ns.length ≤ n → (∀ p ∈ cs, H p.2 = some (.tbl #[])) → SqL K H a (ns.map V.int) → sp [.ref a] H (fun v _ => v = .bl true) fun _ _ _ => False) ∧
    ∀ base : Heap, K.In base → base.Ns mainGlobals mg → (∀ p ∈ cs, TabB base mg p.1 p.2) → FnOk l.prog w K mg base CX k fa fd [x] sp
theorem walk_ofD {l : PySem.W.OpenLaw} {n k : Nat} {q : Program} {loose : List Str} {XP : (Str → Option Value) → Heap → Prop} {YP : World → Heap → Prop} {d : DefRec} {CX : World → CXT} {x : Str}
    (hn : l.most = some n) (hn2 : n ≤ sizeLine) (hdf : d.params.defaults = []) (hr : Room k callerA)
    (F : ∀ (w : World) (mg : Str → Option Value) (fa : Addr) (h : Heap), YP w h → h.Ns mainGlobals mg → mg d.name = some (.ref fa) → ∃ K : PySem.W.Frag, K.In h ∧ LawD l w K (CX w) k n x mg fa h)
    (hCX : ∀ (w : World) (H : Hp) (s : Shared) (e : Value) (s' : Shared), CX w [] H s (fun _ _ _ => False) e s' → False) :
    PySem.W.WalkO q loose XP YP l.row.toRowW d [] (fun f vs => PySem.call f vs) := by
  refine Att.attach_callB hn hdf fun w s₀ s₁ mg mb fa o pm cd doc a vs ns G Y ho hd hcd hmg hobj hints hlen hbits hg => ?_
  obtain ⟨K, KX, fd, cs, sp, hT, nT, C, hb, hsp, hF⟩ := F w mg fa _ Y G.T.g hmg
  exact law_callD KX G.T.g G.T.b G.T.builtins G.T.nolimit hg hT nT C G.T.bmain hobj hints (Nat.le_trans hlen hn2) hr hF hb (fun H hH hS => hsp H a ns hlen hH hS) fun H e s' => hCX w H s₁ e s'
end DL
end
section
set_option maxRecDepth 100000
set_option maxHeartbeats 1000000
/-! What the head's facts say over data. -/
namespace Qh
open PySem PySem.Spec PyProof.Rows
open L2 hiding Room FnOk takes0
open He (refV ga ma fAd ba eqO eqO_ok FnW Dv dflB dflB_ok relB relB_ok relAll relAll_ok Tab dicW dicW_ok keysIn frT frT_in emptyTab Defn cT tabsB codeOf codeOf_eq codeIn_ref tupB tupB_ok)
/-! ### facts -/
section
variable {K : PySem.W.Frag} {w : World} {h : Heap} {mg : Str → Option Value} {x y f : Str}
theorem glo (X : K.In h) (G : h.Ns mainGlobals mg) (c : qGlo x K = true) : mg x = some (.ref (ga K x)) := PySem.W.mg_of X G (eqO_ok c)
theorem free (X : K.In h) (G : h.Ns mainGlobals mg) (c : qFree x K = true) : mg x = none := PySem.W.mg_none_of X G (eqO_ok c)
theorem int_ (X : K.In h) (G : h.Ns mainGlobals mg) {i : Int} (c : qInt x i K = true) : DL.KnowsG K mg x (.int i) := by
  obtain ⟨t, e⟩ := He.int_ok X G c
  exact ⟨_, .int i, e, ⟨t, rfl⟩, fun _ => .int i⟩
theorem str_ (X : K.In h) (G : h.Ns mainGlobals mg) {z : Str} (c : qStr x z K = true) : DL.KnowsG K mg x (.str z) := by
  obtain ⟨t, e⟩ := He.str_ok X G c
  exact ⟨_, .str z, e, ⟨t, rfl⟩, fun _ => .str z⟩
/-- a tuple of the module, of numbers and texts -/
def dv : DL.D → Option Dv
  | .int i => some (.int i)
  | .str z => some (.str z)
  | _ => none
def dvs : List DL.D → Option (List Dv)
  | [] => some []
  | d :: r => (match dv d, dvs r with
    | some v, some vs => some (v :: vs)
    | _, _ => none)
theorem reps_dvs {F : Hp} : ∀ {ds : List DL.D} {vs : List Dv}, dvs ds = some vs → DL.Reps K F ds (vs.map (Dv.v K))
  | [], vs, e => by cases e; exact .nil
  | d :: r, vs, e => by
    unfold dvs at e
    cases q : dv d with
    | none => rw [q] at e; cases e
    | some v =>
      cases q2 : dvs r with
      | none => rw [q, q2] at e; cases e
      | some us =>
        rw [q, q2] at e
        cases e
        refine .cons ?_ (reps_dvs q2)
        cases d <;> cases q
        · exact .int _
        · exact .str _
theorem tup (X : K.In h) (G : h.Ns mainGlobals mg) {ds : List DL.D} {vs : List Dv} (c : qTup x vs K = true) (hv : dvs ds = some vs := by rfl) : DL.KnowsG K mg x (.tup ds) := by
  obtain ⟨c1, c2⟩ := ba c
  exact ⟨_, .ref (ga K x), glo X G c1, rfl, fun F => .tup (tupB_ok c2 F) (reps_dvs hv)⟩
theorem pair_ok : ∀ {kvs : List (Str × Int)} {es : List DictEntry}, pairB kvs es = true → Paired (fun (kv : Str × Int) (e : DictEntry) => ∃ t t', e.key = .str kv.1 t ∧ e.val = .int kv.2 t') kvs es
  | [], [], _ => .nil
  | [], _ :: _, h => by cases h
  | _ :: _, [], h => by cases h
  | kv :: r, e :: s, h => by
    obtain ⟨h1, h2⟩ := ba (show ((match e.key with
      | .str z _ => decide (z = kv.1)
      | _ => false) && ((match e.val with
      | .int i _ => decide (i = kv.2)
      | _ => false) && pairB r s)) = true from h)
    obtain ⟨h2, h3⟩ := ba h2
    refine .cons ?_ (pair_ok h3)
    cases q : e.key with
    | str z t =>
      rw [q] at h1
      cases q2 : e.val with
      | int i t' =>
        rw [q2] at h2
        exact ⟨t, t', by rw [of_decide_eq_true h1], by rw [of_decide_eq_true h2]⟩
      | _ => rw [q2] at h2; cases h2
    | _ => rw [q] at h1; cases h1
theorem dic (X : K.In h) (G : h.Ns mainGlobals mg) {kvs : List (Str × Int)} {es : Array DictEntry} {n : Nat} (D : KDict K w (ga K x) es n) (c : qDic x kvs K = true) (nd : (kvs.map (·.1)).Nodup) : DL.KnowsD K w mg x kvs := by
  obtain ⟨c1, c2⟩ := ba c
  obtain ⟨c2, c3⟩ := ba c2
  rw [D.at_] at c2
  refine ⟨_, es, n, glo X G c1, D, pair_ok c2, nd, fun kv hkv => ?_⟩
  obtain ⟨u, e, r⟩ := He.valsB_ok c3 (List.mem_map.mpr ⟨kv, hkv, rfl⟩)
  obtain ⟨t, rfl⟩ : ∃ t, u = .int kv.2 t := r
  exact ⟨t, e⟩
theorem cls (c : qCls x K = true) : Cls K (ga K x) := He.cls_ok c
theorem no (c : qNo x f K = true) : NoAttr K (ga K x) f := He.noat_ok c
theorem mk (c : qMk x K = true) : Mk K (ga K x) (fAd K (x, some "__init__")) := He.mkr_ok c
theorem me (c : qMe x f K = true) : Meth K (ga K x) f (fAd K (x, some f)) := He.meth_ok c
theorem ki (c : qKI x K = true) : DL.KI K (ga K x) := by
  obtain ⟨c1, c⟩ := ba c
  obtain ⟨c2, c⟩ := ba c
  obtain ⟨c3, c⟩ := ba c
  obtain ⟨c4, c5⟩ := ba c
  exact ⟨cls c1, eqO_ok c2, eqO_ok c3, of_decide_eq_true c4, of_decide_eq_true c5⟩
theorem ki0 (c : qKi0 x K = true) : ∀ m ∈ DL.tyNames, PySem.W.kitOne K (.type m) (.ref (ga K x)) = some false := fun m hm => of_decide_eq_true (List.all_eq_true.mp c m hm)
theorem kit (c : qKit x y K = true) : PySem.W.kitOne K (.ref (ga K x)) (.ref (ga K y)) = some true := of_decide_eq_true c
theorem exm (c : qExm x y K = true) : PySem.W.exmOne K (.ref (ga K x)) (.ref (ga K y)) = some true := of_decide_eq_true c
theorem exs {ys : List Str} (c : qExs x ys K = true) : PySem.W.exmAny K (.ref (ga K x)) (ys.map fun y => .ref (ga K y)) = some true := of_decide_eq_true c
theorem fn_ (c : qFn x f K = true) : PySem.W.findIn K (.ref (ga K x)) f = some (some (.ref (fAd K (x, some f)))) ∧ PySem.W.isFn K (.ref (fAd K (x, some f))) = true := by
  obtain ⟨c1, c2⟩ := ba c
  exact ⟨eqO_ok c1, c2⟩
theorem pr (c : qPr x f K = true) : PropOf K (ga K x) f (ma K (ga K x) f) (gAd x f K) := by
  obtain ⟨c1, c⟩ := ba c
  obtain ⟨c2, c⟩ := ba c
  obtain ⟨c3, c4⟩ := ba c
  refine ⟨eqO_ok c1, eqO_ok c2, of_decide_eq_true c3, ?_⟩
  unfold gAd
  split at c4
  · rename_i g r e
    rw [e]
    exact ⟨r, rfl⟩
  · cases c4
theorem exc {B newId initId : String} (b : ExcBaseFacts B newId initId (bmOf B)) (s : StoreFacts B (bmOf B) "object.__setattr__" "object") (c : qExc x B newId K = true) : DL.ExcK K (ga K x) B newId initId (bmOf B) ∧
    PySem.W.findIn K (.ref (ga K x)) "__init__" = some (some (.ref (fAd K (x, some "__init__")))) ∧ PySem.W.isFn K (.ref (fAd K (x, some "__init__"))) = true := by
  obtain ⟨c1, c⟩ := ba c
  obtain ⟨c2, c⟩ := ba c
  obtain ⟨c3, c⟩ := ba c
  obtain ⟨c4, c⟩ := ba c
  obtain ⟨c5, c⟩ := ba c
  obtain ⟨c6, c⟩ := ba c
  obtain ⟨c7, c8⟩ := ba c
  exact ⟨⟨b, s, c1, c2, c3, eqO_ok c4, of_decide_eq_true c5, of_decide_eq_true c6, c7⟩, fn_ c8⟩
theorem tk (c : qTk x f K = true) : PySem.W.takerIn K (ga K x) f = some none := of_decide_eq_true c
theorem dfT {p : Str × Option Str} (c : qDfT p K = true) (F : Hp) : DL.Rep K F (.tup []) (.ref (He.dflAt p 0 K)) := by
  unfold qDfT at c
  cases q : K.lookup (He.dflAt p 0 K) with
  | none => rw [q] at c; cases c
  | some o =>
    obtain ⟨oc, od, dt, osl⟩ := o
    rw [q] at c
    cases oc with
    | type z =>
      cases dt with
      | seq its n =>
        obtain ⟨c1, c2⟩ := ba (show (decide (z = "tuple") && its.isEmpty) = true from c)
        obtain rfl : its = #[] := Array.isEmpty_iff.mp c2
        exact .tup (.inr ⟨_, #[], n, q, congrArg Value.type (of_decide_eq_true c1), rfl, by decide, .nil⟩) .nil
      | _ => cases c
    | _ => cases dt <;> cases c
theorem ne {p q : Defn} (c : qNe p q K = true) : (cT K p).2 ≠ (cT K q).2 := fun e => by
  unfold qNe at c
  rw [e, decide_eq_true rfl] at c
  cases c
/-- the script and the tables as data -/
def startF (H : Hp) (a : Addr) : Hp := fun b => if b = a then (match H a with
  | some (.lst xs) => some (.lst xs)
  | some (.frz ob u) => some (.frz ob u)
  | _ => none) else none
theorem startF_of {H : Hp} {a b : Addr} {o : HO} (e : startF H a b = some o) : H b = some o ∧ DL.Imm o := by
  unfold startF at e
  split at e
  · rename_i hb
    subst hb
    split at e
    · rename_i q; cases e; exact ⟨q, trivial⟩
    · rename_i q; cases e; exact ⟨q, trivial⟩
    · cases e
  · cases e
theorem startF_sq {H : Hp} {a : Addr} {xs : List V} (h : SqL K H a xs) : SqL K (startF H a) a xs := by
  rcases h with (e | ⟨ob, e⟩) | z
  · exact .inl (.inl (by unfold startF; rw [if_pos rfl, e]))
  · exact .inl (.inr ⟨ob, by unfold startF; rw [if_pos rfl, e]⟩)
  · exact .inr z
theorem reps_ints {F : Hp} : ∀ ns : List Int, DL.Reps K F (ns.map DL.D.int) (ns.map V.int)
  | [] => .nil
  | n :: r => .cons (.int n) (reps_ints r)
def startG (ts : List (Addr × Str)) : DL.GD := fun b => (ts.lookup b).map DL.HOD.tab
theorem lookup_mem2 {b : Addr} {q : Str} : ∀ {l : List (Addr × Str)}, l.lookup b = some q → (b, q) ∈ l
  | [], h => by cases h
  | (c, u) :: r, h => by
    rw [List.lookup_cons] at h
    split at h
    · rename_i e
      cases h
      rw [beq_iff_eq.mp e]
      exact .head _
    · exact .tail _ (lookup_mem2 h)
theorem start_lift {sp : DL.SpD} {H : Hp} {a : Addr} {ns : List Int} (ts : List (Addr × Str)) (hT : ∀ p ∈ ts, H p.1 = some (.tbl #[])) (hS : SqL K H a (ns.map V.int)) (h : sp [.scr (ns.map DL.D.int)] (startG ts) (fun d _ => d = .bl true) fun _ _ _ => False) :
    DL.liftSp K sp [.ref a] H (fun v _ => v = .bl true) fun _ _ _ => False := by
  refine ⟨startF H a, startG ts, _, _, _, ⟨fun b o e => ?_, fun b o e => ?_⟩, .cons (.scr (startF_sq hS) (reps_ints ns)) .nil, h, fun F' H' d G' v _ _ r e => ?_, fun _ _ _ _ _ _ _ _ _ z => z.elim⟩
  · obtain ⟨e1, e2⟩ := startF_of e
    exact ⟨e2, .inl e1⟩
  · unfold startG at e
    obtain ⟨q, hq, rfl⟩ := Option.map_eq_some_iff.mp e
    have hb := hT _ (lookup_mem2 hq)
    refine ⟨?_, #[], hb, trivial, fun pos cv z => by cases z⟩
    cases z : startF H a b with
    | none => rfl
    | some o =>
      obtain ⟨e1, e2⟩ := startF_of z
      rw [show H b = some (.tbl #[]) from hb] at e1
      cases e1
      exact e2.elim
  · subst e
    cases r
    rfl
/-- the def's code object is its table's -/
theorem code_at {name qual : Str} {params : Arguments} {body : List Stmt} {scope : Scope} {dv : List V} {fd : FuncData} {p : Str × Option Str} (F : FunD K name qual params body scope dv [] (fAd K p) fd) : fd.code = .ref (cT K p).1 := by
  obtain ⟨oc, od, dV, kV, doc, pm, an, cdv, ct, osl, rfl, lk, hcd, _, _⟩ := F.ex
  obtain ⟨c, rfl⟩ := codeIn_ref hcd
  show Value.ref c = .ref (codeOf K p)
  rw [codeOf_eq (c := c) lk rfl]
end
end Qh
end
section
set_option maxRecDepth 100000
/-! The text by places; what the top has left. Printed by asm.py. -/
namespace TP
open PySem PySem.Spec PyProof.Rows DL
open L2 hiding Room FnOk takes0
abbrev N_InvalidText___init__ : List Str := ["self", "given"]
theorem sc_InvalidText___init__ : FnScope ["self", "given"] ["self", "given"] (defScope s_InvalidText___init__) := ⟨rfl, rfl, rfl, by decide +kernel, rfl, by decide +kernel, by decide +kernel⟩
abbrev N_InvalidLength___init__ : List Str := ["self", "given"]
theorem sc_InvalidLength___init__ : FnScope ["self", "given"] ["self", "given"] (defScope s_InvalidLength___init__) := ⟨rfl, rfl, rfl, by decide +kernel, rfl, by decide +kernel, by decide +kernel⟩
abbrev N_InvalidPass___init__ : List Str := ["self", "given"]
theorem sc_InvalidPass___init__ : FnScope ["self", "given"] ["self", "given"] (defScope s_InvalidPass___init__) := ⟨rfl, rfl, rfl, by decide +kernel, rfl, by decide +kernel, by decide +kernel⟩
abbrev N_InvalidPlace___init__ : List Str := ["self", "given"]
theorem sc_InvalidPlace___init__ : FnScope ["self", "given"] ["self", "given"] (defScope s_InvalidPlace___init__) := ⟨rfl, rfl, rfl, by decide +kernel, rfl, by decide +kernel, by decide +kernel⟩
abbrev N_InvalidChange___init__ : List Str := ["self", "given"]
theorem sc_InvalidChange___init__ : FnScope ["self", "given"] ["self", "given"] (defScope s_InvalidChange___init__) := ⟨rfl, rfl, rfl, by decide +kernel, rfl, by decide +kernel, by decide +kernel⟩
abbrev N_InvalidWish___init__ : List Str := ["self", "given"]
theorem sc_InvalidWish___init__ : FnScope ["self", "given"] ["self", "given"] (defScope s_InvalidWish___init__) := ⟨rfl, rfl, rfl, by decide +kernel, rfl, by decide +kernel, by decide +kernel⟩
abbrev N_InvalidIndex___init__ : List Str := ["self", "given"]
theorem sc_InvalidIndex___init__ : FnScope ["self", "given"] ["self", "given"] (defScope s_InvalidIndex___init__) := ⟨rfl, rfl, rfl, by decide +kernel, rfl, by decide +kernel, by decide +kernel⟩
abbrev N_NotATrack___init__ : List Str := ["self", "given"]
theorem sc_NotATrack___init__ : FnScope ["self", "given"] ["self", "given"] (defScope s_NotATrack___init__) := ⟨rfl, rfl, rfl, by decide +kernel, rfl, by decide +kernel, by decide +kernel⟩
abbrev N_InvalidPasses___init__ : List Str := ["self", "index"]
theorem sc_InvalidPasses___init__ : FnScope ["self", "index"] ["self", "index"] (defScope s_InvalidPasses___init__) := ⟨rfl, rfl, rfl, by decide +kernel, rfl, by decide +kernel, by decide +kernel⟩
abbrev N_UnknownName___init__ : List Str := ["self", "given"]
theorem sc_UnknownName___init__ : FnScope ["self", "given"] ["self", "given"] (defScope s_UnknownName___init__) := ⟨rfl, rfl, rfl, by decide +kernel, rfl, by decide +kernel, by decide +kernel⟩
abbrev N_NothingToUndo___init__ : List Str := ["self"]
theorem sc_NothingToUndo___init__ : FnScope ["self"] ["self"] (defScope s_NothingToUndo___init__) := ⟨rfl, rfl, rfl, by decide +kernel, rfl, by decide +kernel, by decide +kernel⟩
abbrev N_TooMany___init__ : List Str := ["self", "most"]
theorem sc_TooMany___init__ : FnScope ["self", "most"] ["self", "most"] (defScope s_TooMany___init__) := ⟨rfl, rfl, rfl, by decide +kernel, rfl, by decide +kernel, by decide +kernel⟩
abbrev N_Broken___init__ : List Str := ["self", "index"]
theorem sc_Broken___init__ : FnScope ["self", "index"] ["self", "index"] (defScope s_Broken___init__) := ⟨rfl, rfl, rfl, by decide +kernel, rfl, by decide +kernel, by decide +kernel⟩
abbrev N_is_whole : List Str := ["value"]
theorem sc_is_whole : FnScope ["value"] ["value"] (defScope s_is_whole) := ⟨rfl, rfl, rfl, by decide +kernel, rfl, by decide +kernel, by decide +kernel⟩
abbrev N_is_integer : List Str := ["value", "least", "greatest"]
theorem sc_is_integer : FnScope ["value", "least", "greatest"] ["value", "least", "greatest"] (defScope s_is_integer) := ⟨rfl, rfl, rfl, by decide +kernel, rfl, by decide +kernel, by decide +kernel⟩
abbrev N_is_name : List Str := ["value", "sign"]
theorem sc_is_name : FnScope ["value", "sign"] ["value"] (defScope s_is_name) := ⟨rfl, rfl, rfl, by decide +kernel, rfl, by decide +kernel, by decide +kernel⟩
abbrev N_written : List Str := ["text", "sign"]
theorem sc_written : FnScope ["text", "sign"] ["text"] (defScope s_written) := ⟨rfl, rfl, rfl, by decide +kernel, rfl, by decide +kernel, by decide +kernel⟩
abbrev N_is_tuple_of : List Str := ["value", "many"]
theorem sc_is_tuple_of : FnScope ["value", "many"] ["value", "many"] (defScope s_is_tuple_of) := ⟨rfl, rfl, rfl, by decide +kernel, rfl, by decide +kernel, by decide +kernel⟩
abbrev N_is_stretch : List Str := ["value", "least", "greatest", "tick"]
theorem sc_is_stretch : FnScope ["value", "least", "greatest", "tick"] ["value", "least", "greatest"] (defScope s_is_stretch) := ⟨rfl, rfl, rfl, by decide +kernel, rfl, by decide +kernel, by decide +kernel⟩
abbrev N_common : List Str := ["one", "other"]
theorem sc_common : FnScope ["one", "other"] ["one", "other"] (defScope s_common) := ⟨rfl, rfl, rfl, by decide +kernel, rfl, by decide +kernel, by decide +kernel⟩
abbrev N_lowest : List Str := ["top", "bottom", "shared"]
theorem sc_lowest : FnScope ["top", "bottom", "shared"] ["top", "bottom"] (defScope s_lowest) := ⟨rfl, rfl, rfl, by decide +kernel, rfl, by decide +kernel, by decide +kernel⟩
abbrev N_minus : List Str := ["one", "other"]
theorem sc_minus : FnScope ["one", "other"] ["one", "other"] (defScope s_minus) := ⟨rfl, rfl, rfl, by decide +kernel, rfl, by decide +kernel, by decide +kernel⟩
abbrev N_times : List Str := ["one", "other"]
theorem sc_times : FnScope ["one", "other"] ["one", "other"] (defScope s_times) := ⟨rfl, rfl, rfl, by decide +kernel, rfl, by decide +kernel, by decide +kernel⟩
abbrev N_is_more : List Str := ["one", "other"]
theorem sc_is_more : FnScope ["one", "other"] ["one", "other"] (defScope s_is_more) := ⟨rfl, rfl, rfl, by decide +kernel, rfl, by decide +kernel, by decide +kernel⟩
abbrev N_is_limit : List Str := ["value", "part"]
theorem sc_is_limit : FnScope ["value", "part"] ["value"] (defScope s_is_limit) := ⟨rfl, rfl, rfl, by decide +kernel, rfl, by decide +kernel, by decide +kernel⟩
abbrev N_longest : List Str := ["stretches", "found", "first", "end"]
theorem sc_longest : FnScope ["stretches", "found", "first", "end"] ["stretches"] (defScope s_longest) := ⟨rfl, rfl, rfl, by decide +kernel, rfl, by decide +kernel, by decide +kernel⟩
abbrev N_are_touches : List Str := ["value", "first", "end", "touch", "one", "other"]
theorem sc_are_touches : FnScope ["value", "first", "end", "touch", "one", "other"] ["value", "first", "end"] (defScope s_are_touches) := ⟨rfl, rfl, rfl, by decide +kernel, rfl, by decide +kernel, by decide +kernel⟩
abbrev N_is_word : List Str := ["value", "words"]
theorem sc_is_word : FnScope ["value", "words"] ["value", "words"] (defScope s_is_word) := ⟨rfl, rfl, rfl, by decide +kernel, rfl, by decide +kernel, by decide +kernel⟩
abbrev N_is_pass : List Str := ["value", "length", "names", "name", "mode", "first", "end", "touches", "glide", "tail"]
theorem sc_is_pass : FnScope ["value", "length", "names", "name", "mode", "first", "end", "touches", "glide", "tail"] ["value", "length", "names"] (defScope s_is_pass) := ⟨rfl, rfl, rfl, by decide +kernel, rfl, by decide +kernel, by decide +kernel⟩
abbrev N_row_of : List Str := ["one_pass", "stretches", "name", "mode", "first", "end", "touches", "glide", "tail", "touch"]
theorem sc_row_of : FnScope ["one_pass", "stretches", "name", "mode", "first", "end", "touches", "glide", "tail", "touch"] ["one_pass"] (defScope s_row_of) := ⟨rfl, rfl, rfl, by decide +kernel, rfl, by decide +kernel, by decide +kernel⟩
abbrev N_touch_of : List Str := ["text", "part"]
theorem sc_touch_of : FnScope ["text", "part"] ["text"] (defScope s_touch_of) := ⟨rfl, rfl, rfl, by decide +kernel, rfl, by decide +kernel, by decide +kernel⟩
abbrev N_pass_of : List Str := ["row", "words", "touches", "word"]
theorem sc_pass_of : FnScope ["row", "words", "touches", "word"] ["row"] (defScope s_pass_of) := ⟨rfl, rfl, rfl, by decide +kernel, rfl, by decide +kernel, by decide +kernel⟩
abbrev N_Track___init__ : List Str := ["self", "length", "passes", "names", "index", "one_pass"]
theorem sc_Track___init__ : FnScope ["self", "length", "passes", "names", "index", "one_pass"] ["self", "length", "passes"] (defScope s_Track___init__) := ⟨rfl, rfl, rfl, by decide +kernel, rfl, by decide +kernel, by decide +kernel⟩
abbrev N_Track_read : List Str := ["cls", "text", "words", "head", "track", "rows", "row"]
theorem sc_Track_read : FnScope ["cls", "text", "words", "head", "track", "rows", "row"] ["cls", "text"] (defScope s_Track_read) := ⟨rfl, rfl, rfl, by decide +kernel, rfl, by decide +kernel, by decide +kernel⟩
abbrev N_Track_length : List Str := ["self"]
theorem sc_Track_length : FnScope ["self"] ["self"] (defScope s_Track_length) := ⟨rfl, rfl, rfl, by decide +kernel, rfl, by decide +kernel, by decide +kernel⟩
abbrev N_Track_passes : List Str := ["self"]
theorem sc_Track_passes : FnScope ["self"] ["self"] (defScope s_Track_passes) := ⟨rfl, rfl, rfl, by decide +kernel, rfl, by decide +kernel, by decide +kernel⟩
abbrev N_Track_names : List Str := ["self", "one_pass"]
theorem sc_Track_names : FnScope ["self", "one_pass"] ["self"] (defScope s_Track_names) := ⟨rfl, rfl, rfl, by decide +kernel, rfl, by decide +kernel, by decide +kernel⟩
abbrev N_Track___len__ : List Str := ["self"]
theorem sc_Track___len__ : FnScope ["self"] ["self"] (defScope s_Track___len__) := ⟨rfl, rfl, rfl, by decide +kernel, rfl, by decide +kernel, by decide +kernel⟩
abbrev N_Track___bool__ : List Str := ["self"]
theorem sc_Track___bool__ : FnScope ["self"] ["self"] (defScope s_Track___bool__) := ⟨rfl, rfl, rfl, by decide +kernel, rfl, by decide +kernel, by decide +kernel⟩
abbrev N_Track___iter__ : List Str := ["self"]
theorem sc_Track___iter__ : FnScope ["self"] ["self"] (defScope s_Track___iter__) := ⟨rfl, rfl, rfl, by decide +kernel, rfl, by decide +kernel, by decide +kernel⟩
abbrev N_Track___contains__ : List Str := ["self", "value"]
theorem sc_Track___contains__ : FnScope ["self", "value"] ["self", "value"] (defScope s_Track___contains__) := ⟨rfl, rfl, rfl, by decide +kernel, rfl, by decide +kernel, by decide +kernel⟩
abbrev N_Track___getitem__ : List Str := ["self", "name", "found", "one_pass"]
theorem sc_Track___getitem__ : FnScope ["self", "name", "found", "one_pass"] ["self", "name"] (defScope s_Track___getitem__) := ⟨rfl, rfl, rfl, by decide +kernel, rfl, by decide +kernel, by decide +kernel⟩
abbrev N_Track___str__ : List Str := ["self", "one_pass"]
theorem sc_Track___str__ : FnScope ["self", "one_pass"] ["self"] (defScope s_Track___str__) := ⟨rfl, rfl, rfl, by decide +kernel, rfl, by decide +kernel, by decide +kernel⟩
abbrev N_Track___eq__ : List Str := ["self", "other"]
theorem sc_Track___eq__ : FnScope ["self", "other"] ["self", "other"] (defScope s_Track___eq__) := ⟨rfl, rfl, rfl, by decide +kernel, rfl, by decide +kernel, by decide +kernel⟩
abbrev N_Track_put : List Str := ["self", "one_pass", "place", "spot"]
theorem sc_Track_put : FnScope ["self", "one_pass", "place", "spot"] ["self", "one_pass", "place"] (defScope s_Track_put) := ⟨rfl, rfl, rfl, by decide +kernel, rfl, by decide +kernel, by decide +kernel⟩
abbrev N_Track_without : List Str := ["self", "name", "index"]
theorem sc_Track_without : FnScope ["self", "name", "index"] ["self", "name"] (defScope s_Track_without) := ⟨rfl, rfl, rfl, by decide +kernel, rfl, by decide +kernel, by decide +kernel⟩
abbrev N_Track_moved : List Str := ["self", "name", "place", "index"]
theorem sc_Track_moved : FnScope ["self", "name", "place", "index"] ["self", "name", "place"] (defScope s_Track_moved) := ⟨rfl, rfl, rfl, by decide +kernel, rfl, by decide +kernel, by decide +kernel⟩
abbrev N_Track_changed : List Str := ["self", "change", "track"]
theorem sc_Track_changed : FnScope ["self", "change", "track"] ["self", "change"] (defScope s_Track_changed) := ⟨rfl, rfl, rfl, by decide +kernel, rfl, by decide +kernel, by decide +kernel⟩
abbrev N_index_of : List Str := ["track", "name"]
theorem sc_index_of : FnScope ["track", "name"] ["track", "name"] (defScope s_index_of) := ⟨rfl, rfl, rfl, by decide +kernel, rfl, by decide +kernel, by decide +kernel⟩
abbrev N_is_change : List Str := ["track", "value"]
theorem sc_is_change : FnScope ["track", "value"] ["track", "value"] (defScope s_is_change) := ⟨rfl, rfl, rfl, by decide +kernel, rfl, by decide +kernel, by decide +kernel⟩
abbrev N_with_changes : List Str := ["track", "changes", "rows", "name", "part", "value", "one_pass", "row"]
theorem sc_with_changes : FnScope ["track", "changes", "rows", "name", "part", "value", "one_pass", "row"] ["track", "changes"] (defScope s_with_changes) := ⟨rfl, rfl, rfl, by decide +kernel, rfl, by decide +kernel, by decide +kernel⟩
abbrev N_check_track : List Str := ["value"]
theorem sc_check_track : FnScope ["value"] ["value"] (defScope s_check_track) := ⟨rfl, rfl, rfl, by decide +kernel, rfl, by decide +kernel, by decide +kernel⟩
abbrev N_Part___init__ : List Str := ["self", "first", "end", "terms"]
theorem sc_Part___init__ : FnScope ["self", "first", "end", "terms"] ["self", "first", "end", "terms"] (defScope s_Part___init__) := ⟨rfl, rfl, rfl, by decide +kernel, rfl, by decide +kernel, by decide +kernel⟩
abbrev N_Part_cut : List Str := ["self", "first", "end"]
theorem sc_Part_cut : FnScope ["self", "first", "end"] ["self", "first", "end"] (defScope s_Part_cut) := ⟨rfl, rfl, rfl, by decide +kernel, rfl, by decide +kernel, by decide +kernel⟩
abbrev N_Part_at : List Str := ["self", "tick", "name", "place", "weight"]
theorem sc_Part_at : FnScope ["self", "tick", "name", "place", "weight"] ["self", "tick"] (defScope s_Part_at) := ⟨rfl, rfl, rfl, by decide +kernel, rfl, by decide +kernel, by decide +kernel⟩
abbrev N_Zone___init__ : List Str := ["self", "first", "end", "word", "place", "weight"]
theorem sc_Zone___init__ : FnScope ["self", "first", "end", "word", "place", "weight"] ["self", "first", "end", "word", "place", "weight"] (defScope s_Zone___init__) := ⟨rfl, rfl, rfl, by decide +kernel, rfl, by decide +kernel, by decide +kernel⟩
abbrev N_glide_zones : List Str := ["one_pass", "tick", "end", "found", "step", "name", "mode", "first", "last", "touches", "glide", "tail", "weight"]
theorem sc_glide_zones : FnScope ["one_pass", "tick", "end", "found", "step", "name", "mode", "first", "last", "touches", "glide", "tail", "weight"] ["one_pass", "tick", "end"] (defScope s_glide_zones) := ⟨rfl, rfl, rfl, by decide +kernel, rfl, by decide +kernel, by decide +kernel⟩
abbrev N_zones_of : List Str := ["one_pass", "length", "end", "ends", "found", "name", "mode", "first", "last", "touches", "glide", "tail", "touch", "limit", "zone"]
theorem sc_zones_of : FnScope ["one_pass", "length", "end", "ends", "found", "name", "mode", "first", "last", "touches", "glide", "tail", "touch", "limit", "zone"] ["one_pass", "length"] (defScope s_zones_of) := ⟨rfl, rfl, rfl, by decide +kernel, rfl, by decide +kernel, by decide +kernel⟩
abbrev N_spot_of : List Str := ["parts", "tick", "low", "high", "middle"]
theorem sc_spot_of : FnScope ["parts", "tick", "low", "high", "middle"] ["parts", "tick"] (defScope s_spot_of) := ⟨rfl, rfl, rfl, by decide +kernel, rfl, by decide +kernel, by decide +kernel⟩
abbrev N_between : List Str := ["parts", "first", "end", "found", "spot"]
theorem sc_between : FnScope ["parts", "first", "end", "found", "spot"] ["parts", "first", "end"] (defScope s_between) := ⟨rfl, rfl, rfl, by decide +kernel, rfl, by decide +kernel, by decide +kernel⟩
abbrev N_part_at : List Str := ["parts", "tick"]
theorem sc_part_at : FnScope ["parts", "tick"] ["parts", "tick"] (defScope s_part_at) := ⟨rfl, rfl, rfl, by decide +kernel, rfl, by decide +kernel, by decide +kernel⟩
abbrev N_behind_zone : List Str := ["parts", "name", "zone", "own", "found", "part", "rest", "kept", "source", "place", "weight"]
theorem sc_behind_zone : FnScope ["parts", "name", "zone", "own", "found", "part", "rest", "kept", "source", "place", "weight"] ["parts", "name", "zone"] (defScope s_behind_zone) := ⟨rfl, rfl, rfl, by decide +kernel, rfl, by decide +kernel, by decide +kernel⟩
abbrev N_behind : List Str := ["parts", "one_pass", "length", "found", "tick", "zone"]
theorem sc_behind : FnScope ["parts", "one_pass", "length", "found", "tick", "zone"] ["parts", "one_pass", "length"] (defScope s_behind) := ⟨rfl, rfl, rfl, by decide +kernel, rfl, by decide +kernel, by decide +kernel⟩
abbrev N_parts_of : List Str := ["track", "parts", "one_pass", "found", "part"]
theorem sc_parts_of : FnScope ["track", "parts", "one_pass", "found", "part"] ["track"] (defScope s_parts_of) := ⟨rfl, rfl, rfl, by decide +kernel, rfl, by decide +kernel, by decide +kernel⟩
abbrev N_single : List Str := ["part"]
theorem sc_single : FnScope ["part"] ["part"] (defScope s_single) := ⟨rfl, rfl, rfl, by decide +kernel, rfl, by decide +kernel, by decide +kernel⟩
abbrev N_is_now : List Str := ["part", "place"]
theorem sc_is_now : FnScope ["part", "place"] ["part", "place"] (defScope s_is_now) := ⟨rfl, rfl, rfl, by decide +kernel, rfl, by decide +kernel, by decide +kernel⟩
abbrev N_joined : List Str := ["run", "part", "terms", "name", "place", "weight", "later", "other_weight"]
theorem sc_joined : FnScope ["run", "part", "terms", "name", "place", "weight", "later", "other_weight"] ["run", "part"] (defScope s_joined) := ⟨rfl, rfl, rfl, by decide +kernel, rfl, by decide +kernel, by decide +kernel⟩
abbrev N_runs_of : List Str := ["track", "found", "part", "run", "each"]
theorem sc_runs_of : FnScope ["track", "found", "part", "run", "each"] ["track"] (defScope s_runs_of) := ⟨rfl, rfl, rfl, by decide +kernel, rfl, by decide +kernel, by decide +kernel⟩
abbrev N_told : List Str := ["terms", "name"]
theorem sc_told : FnScope ["terms", "name"] ["terms"] (defScope s_told) := ⟨rfl, rfl, rfl, by decide +kernel, rfl, by decide +kernel, by decide +kernel⟩
abbrev N_pieces_of : List Str := ["track", "part"]
theorem sc_pieces_of : FnScope ["track", "part"] ["track"] (defScope s_pieces_of) := ⟨rfl, rfl, rfl, by decide +kernel, rfl, by decide +kernel, by decide +kernel⟩
abbrev N_form_of : List Str := ["track", "tick"]
theorem sc_form_of : FnScope ["track", "tick"] ["track", "tick"] (defScope s_form_of) := ⟨rfl, rfl, rfl, by decide +kernel, rfl, by decide +kernel, by decide +kernel⟩
abbrev N_difference : List Str := ["one", "other", "found", "name", "step", "weight", "mate", "terms"]
theorem sc_difference : FnScope ["one", "other", "found", "name", "step", "weight", "mate", "terms"] ["one", "other"] (defScope s_difference) := ⟨rfl, rfl, rfl, by decide +kernel, rfl, by decide +kernel, by decide +kernel⟩
abbrev N_steps_of : List Str := ["track", "parts", "found", "part", "later", "step", "tick"]
theorem sc_steps_of : FnScope ["track", "parts", "found", "part", "later", "step", "tick"] ["track"] (defScope s_steps_of) := ⟨rfl, rfl, rfl, by decide +kernel, rfl, by decide +kernel, by decide +kernel⟩
abbrev N_sudden_of : List Str := ["track", "limit", "step", "tick"]
theorem sc_sudden_of : FnScope ["track", "limit", "step", "tick"] ["track", "limit"] (defScope s_sudden_of) := ⟨rfl, rfl, rfl, by decide +kernel, rfl, by decide +kernel, by decide +kernel⟩
abbrev N_are_alike : List Str := ["one", "other"]
theorem sc_are_alike : FnScope ["one", "other"] ["one", "other"] (defScope s_are_alike) := ⟨rfl, rfl, rfl, by decide +kernel, rfl, by decide +kernel, by decide +kernel⟩
abbrev N_heard_of : List Str := ["track", "source", "found", "part", "place"]
theorem sc_heard_of : FnScope ["track", "source", "found", "part", "place"] ["track", "source"] (defScope s_heard_of) := ⟨rfl, rfl, rfl, by decide +kernel, rfl, by decide +kernel, by decide +kernel⟩
abbrev N_is_kept : List Str := ["part", "place", "weight"]
theorem sc_is_kept : FnScope ["part", "place", "weight"] ["part"] (defScope s_is_kept) := ⟨rfl, rfl, rfl, by decide +kernel, rfl, by decide +kernel, by decide +kernel⟩
abbrev N_kept_of : List Str := ["track", "part"]
theorem sc_kept_of : FnScope ["track", "part"] ["track"] (defScope s_kept_of) := ⟨rfl, rfl, rfl, by decide +kernel, rfl, by decide +kernel, by decide +kernel⟩
abbrev N_track_of : List Str := ["text", "track"]
theorem sc_track_of : FnScope ["text", "track"] ["text"] (defScope s_track_of) := ⟨rfl, rfl, rfl, by decide +kernel, rfl, by decide +kernel, by decide +kernel⟩
abbrev N_has_words : List Str := ["value", "word", "many"]
theorem sc_has_words : FnScope ["value", "word", "many"] ["value", "word", "many"] (defScope s_has_words) := ⟨rfl, rfl, rfl, by decide +kernel, rfl, by decide +kernel, by decide +kernel⟩
abbrev N_is_wish : List Str := ["length", "value"]
theorem sc_is_wish : FnScope ["length", "value"] ["length", "value"] (defScope s_is_wish) := ⟨rfl, rfl, rfl, by decide +kernel, rfl, by decide +kernel, by decide +kernel⟩
abbrev N_is_within : List Str := ["stretch", "stretches", "first", "end"]
theorem sc_is_within : FnScope ["stretch", "stretches", "first", "end"] ["stretch", "stretches"] (defScope s_is_within) := ⟨rfl, rfl, rfl, by decide +kernel, rfl, by decide +kernel, by decide +kernel⟩
abbrev N_other_tick : List Str := ["track", "first", "end", "terms", "part", "cut", "ticks", "tick"]
theorem sc_other_tick : FnScope ["track", "first", "end", "terms", "part", "cut", "ticks", "tick"] ["track", "first", "end"] (defScope s_other_tick) := ⟨rfl, rfl, rfl, by decide +kernel, rfl, by decide +kernel, by decide +kernel⟩
abbrev N_does_hold : List Str := ["track", "wish"]
theorem sc_does_hold : FnScope ["track", "wish"] ["track", "wish"] (defScope s_does_hold) := ⟨rfl, rfl, rfl, by decide +kernel, rfl, by decide +kernel, by decide +kernel⟩
abbrev N_check_wish : List Str := ["track", "value"]
theorem sc_check_wish : FnScope ["track", "value"] ["track", "value"] (defScope s_check_wish) := ⟨rfl, rfl, rfl, by decide +kernel, rfl, by decide +kernel, by decide +kernel⟩
abbrev N_Desk___init__ : List Str := ["self", "track"]
theorem sc_Desk___init__ : FnScope ["self", "track"] ["self", "track"] (defScope s_Desk___init__) := ⟨rfl, rfl, rfl, by decide +kernel, rfl, by decide +kernel, by decide +kernel⟩
abbrev N_Desk_track : List Str := ["self"]
theorem sc_Desk_track : FnScope ["self"] ["self"] (defScope s_Desk_track) := ⟨rfl, rfl, rfl, by decide +kernel, rfl, by decide +kernel, by decide +kernel⟩
abbrev N_Desk_promises : List Str := ["self"]
theorem sc_Desk_promises : FnScope ["self"] ["self"] (defScope s_Desk_promises) := ⟨rfl, rfl, rfl, by decide +kernel, rfl, by decide +kernel, by decide +kernel⟩
abbrev N_Desk_changes : List Str := ["self"]
theorem sc_Desk_changes : FnScope ["self"] ["self"] (defScope s_Desk_changes) := ⟨rfl, rfl, rfl, by decide +kernel, rfl, by decide +kernel, by decide +kernel⟩
abbrev N_Desk___len__ : List Str := ["self"]
theorem sc_Desk___len__ : FnScope ["self"] ["self"] (defScope s_Desk___len__) := ⟨rfl, rfl, rfl, by decide +kernel, rfl, by decide +kernel, by decide +kernel⟩
abbrev N_Desk___bool__ : List Str := ["self"]
theorem sc_Desk___bool__ : FnScope ["self"] ["self"] (defScope s_Desk___bool__) := ⟨rfl, rfl, rfl, by decide +kernel, rfl, by decide +kernel, by decide +kernel⟩
abbrev N_Desk___iter__ : List Str := ["self"]
theorem sc_Desk___iter__ : FnScope ["self"] ["self"] (defScope s_Desk___iter__) := ⟨rfl, rfl, rfl, by decide +kernel, rfl, by decide +kernel, by decide +kernel⟩
abbrev N_Desk_become : List Str := ["self", "track", "promises", "index", "wish"]
theorem sc_Desk_become : FnScope ["self", "track", "promises", "index", "wish"] ["self", "track", "promises"] (defScope s_Desk_become) := ⟨rfl, rfl, rfl, by decide +kernel, rfl, by decide +kernel, by decide +kernel⟩
abbrev N_Desk_put : List Str := ["self", "one_pass", "place", "track", "promises"]
theorem sc_Desk_put : FnScope ["self", "one_pass", "place", "track", "promises"] ["self", "one_pass", "place"] (defScope s_Desk_put) := ⟨rfl, rfl, rfl, by decide +kernel, rfl, by decide +kernel, by decide +kernel⟩
abbrev N_Desk_take : List Str := ["self", "name", "track", "promises"]
theorem sc_Desk_take : FnScope ["self", "name", "track", "promises"] ["self", "name"] (defScope s_Desk_take) := ⟨rfl, rfl, rfl, by decide +kernel, rfl, by decide +kernel, by decide +kernel⟩
abbrev N_Desk_move : List Str := ["self", "name", "place", "track", "promises"]
theorem sc_Desk_move : FnScope ["self", "name", "place", "track", "promises"] ["self", "name", "place"] (defScope s_Desk_move) := ⟨rfl, rfl, rfl, by decide +kernel, rfl, by decide +kernel, by decide +kernel⟩
abbrev N_Desk_change : List Str := ["self", "change", "track", "promises"]
theorem sc_Desk_change : FnScope ["self", "change", "track", "promises"] ["self", "change"] (defScope s_Desk_change) := ⟨rfl, rfl, rfl, by decide +kernel, rfl, by decide +kernel, by decide +kernel⟩
abbrev N_Desk_promise : List Str := ["self", "wish", "track", "promises"]
theorem sc_Desk_promise : FnScope ["self", "wish", "track", "promises"] ["self", "wish"] (defScope s_Desk_promise) := ⟨rfl, rfl, rfl, by decide +kernel, rfl, by decide +kernel, by decide +kernel⟩
abbrev N_Desk_lift : List Str := ["self", "index", "track", "promises"]
theorem sc_Desk_lift : FnScope ["self", "index", "track", "promises"] ["self", "index"] (defScope s_Desk_lift) := ⟨rfl, rfl, rfl, by decide +kernel, rfl, by decide +kernel, by decide +kernel⟩
abbrev N_Desk_undo : List Str := ["self"]
theorem sc_Desk_undo : FnScope ["self"] ["self"] (defScope s_Desk_undo) := ⟨rfl, rfl, rfl, by decide +kernel, rfl, by decide +kernel, by decide +kernel⟩
abbrev N_Desk_trial : List Str := ["self"]
theorem sc_Desk_trial : FnScope ["self"] ["self"] (defScope s_Desk_trial) := ⟨rfl, rfl, rfl, by decide +kernel, rfl, by decide +kernel, by decide +kernel⟩
abbrev N_Desk_tried : List Str := ["self", "action"]
theorem sc_Desk_tried : FnScope ["self", "action"] ["self", "action"] (defScope s_Desk_tried) := ⟨rfl, rfl, rfl, by decide +kernel, rfl, by decide +kernel, by decide +kernel⟩
abbrev N_law_purse : List Str := ["script", "k", "cell", "figures", "more"]
theorem sc_law_purse : FnScope ["script", "k", "cell", "figures", "more"] ["script", "k"] (defScope s_law_purse) := ⟨rfl, rfl, rfl, by decide +kernel, rfl, by decide +kernel, by decide +kernel⟩
abbrev N_law_take : List Str := ["purse", "many", "factor", "seed", "count", "digit"]
theorem sc_law_take : FnScope ["purse", "many", "factor", "seed", "count", "digit"] ["purse", "many"] (defScope s_law_take) := ⟨rfl, rfl, rfl, by decide +kernel, rfl, by decide +kernel, by decide +kernel⟩
abbrev N_law_one : List Str := ["purse", "things"]
theorem sc_law_one : FnScope ["purse", "things"] ["purse", "things"] (defScope s_law_one) := ⟨rfl, rfl, rfl, by decide +kernel, rfl, by decide +kernel, by decide +kernel⟩
abbrev N_law_names : List Str := ["purse", "many", "found", "k", "word", "more"]
theorem sc_law_names : FnScope ["purse", "many", "found", "k", "word", "more"] ["purse", "many"] (defScope s_law_names) := ⟨rfl, rfl, rfl, by decide +kernel, rfl, by decide +kernel, by decide +kernel⟩
abbrev N_law_touches : List Str := ["purse", "first", "last", "k", "found", "spot", "start", "stop"]
theorem sc_law_touches : FnScope ["purse", "first", "last", "k", "found", "spot", "start", "stop"] ["purse", "first", "last"] (defScope s_law_touches) := ⟨rfl, rfl, rfl, by decide +kernel, rfl, by decide +kernel, by decide +kernel⟩
abbrev N_law_pass : List Str := ["purse", "name", "length", "glides", "first", "last", "mode", "touches"]
theorem sc_law_pass : FnScope ["purse", "name", "length", "glides", "first", "last", "mode", "touches"] ["purse", "name", "length", "glides"] (defScope s_law_pass) := ⟨rfl, rfl, rfl, by decide +kernel, rfl, by decide +kernel, by decide +kernel⟩
abbrev N_law_row : List Str := ["purse", "length", "many", "glides", "words", "word"]
theorem sc_law_row : FnScope ["purse", "length", "many", "glides", "words", "word"] ["purse", "length", "many", "glides"] (defScope s_law_row) := ⟨rfl, rfl, rfl, by decide +kernel, rfl, by decide +kernel, by decide +kernel⟩
abbrev N_law_seen : List Str := ["desk"]
theorem sc_law_seen : FnScope ["desk"] ["desk"] (defScope s_law_seen) := ⟨rfl, rfl, rfl, by decide +kernel, rfl, by decide +kernel, by decide +kernel⟩
abbrev N_law_promise : List Str := ["purse", "length"]
theorem sc_law_promise : FnScope ["purse", "length"] ["purse", "length"] (defScope s_law_promise) := ⟨rfl, rfl, rfl, by decide +kernel, rfl, by decide +kernel, by decide +kernel⟩
abbrev N_law_step : List Str := ["purse", "desk", "words", "length", "way", "names_here", "free", "spot", "word"]
theorem sc_law_step : FnScope ["purse", "desk", "words", "length", "way", "names_here", "free", "spot", "word"] ["purse", "desk", "words", "length"] (defScope s_law_step) := ⟨rfl, rfl, rfl, by decide +kernel, rfl, by decide +kernel, by decide +kernel⟩
abbrev N_law_is_refused : List Str := ["act"]
theorem sc_law_is_refused : FnScope ["act"] ["act"] (defScope s_law_is_refused) := ⟨rfl, rfl, rfl, by decide +kernel, rfl, by decide +kernel, by decide +kernel⟩
abbrev N_law_refused_right : List Str := ["desk", "length", "calls", "ahead", "many"]
theorem sc_law_refused_right : FnScope ["desk", "length", "calls", "ahead", "many"] ["desk", "length"] (defScope s_law_refused_right) := ⟨rfl, rfl, rfl, by decide +kernel, rfl, by decide +kernel, by decide +kernel⟩
abbrev N_law_back_right : List Str := ["desk", "seen", "many", "k"]
theorem sc_law_back_right : FnScope ["desk", "seen", "many", "k"] ["desk", "seen", "many"] (defScope s_law_back_right) := ⟨rfl, rfl, rfl, by decide +kernel, rfl, by decide +kernel, by decide +kernel⟩
abbrev N_law_right : List Str := ["purse", "desk", "turn", "length", "words", "seen", "many"]
theorem sc_law_right : FnScope ["purse", "desk", "turn", "length", "words", "seen", "many"] ["purse"] (defScope s_law_right) := ⟨rfl, rfl, rfl, by decide +kernel, rfl, by decide +kernel, by decide +kernel⟩
abbrev N_law : List Str := ["script", "k"]
theorem sc_law : FnScope ["script", "k"] ["script"] (defScope s_law) := ⟨rfl, rfl, rfl, by decide +kernel, rfl, by decide +kernel, by decide +kernel⟩
/-- where the classes stand -/
structure Ad where
  BadValue : Addr
  BadName : Addr
  NoAnswer : Addr
  InvalidText : Addr
  InvalidLength : Addr
  InvalidPass : Addr
  InvalidPlace : Addr
  InvalidChange : Addr
  InvalidWish : Addr
  InvalidIndex : Addr
  NotATrack : Addr
  InvalidPasses : Addr
  UnknownName : Addr
  NothingToUndo : Addr
  TooMany : Addr
  Broken : Addr
  Track : Addr
  Part : Addr
  Zone : Addr
  Desk : Addr
structure Txt (K : PySem.W.Frag) (w : World) (mg : Str → Option Value) (a : Ad) : Prop where
  ArithmeticError : mg "ArithmeticError" = none
  LookupError : mg "LookupError" = none
  TypeError : mg "TypeError" = none
  ValueError : mg "ValueError" = none
  abs : mg "abs" = none
  all : mg "all" = none
  any : mg "any" = none
  bool_ : mg "bool" = none
  divmod : mg "divmod" = none
  enumerate : mg "enumerate" = none
  int_ : mg "int" = none
  isinstance : mg "isinstance" = none
  len : mg "len" = none
  list_ : mg "list" = none
  max : mg "max" = none
  min : mg "min" = none
  range : mg "range" = none
  repr : mg "repr" = none
  sorted : mg "sorted" = none
  str_ : mg "str" = none
  tuple_ : mg "tuple" = none
  zip : mg "zip" = none
  cMOST_LENGTH : KnowsG K mg "MOST_LENGTH" (.int 1000000000000)
  cMOST_PASSES : KnowsG K mg "MOST_PASSES" (.int 8)
  cMOST_TOUCHES : KnowsG K mg "MOST_TOUCHES" (.int 6)
  cMOST_GLIDE : KnowsG K mg "MOST_GLIDE" (.int 100)
  cLETTERS : KnowsG K mg "LETTERS" (.str "abcdefghijklmnopqrstuvwxyz")
  cDIGITS : KnowsG K mg "DIGITS" (.str "0123456789")
  cLONGEST_NAME : KnowsG K mg "LONGEST_NAME" (.int 8)
  cLONGEST_NUMBER : KnowsG K mg "LONGEST_NUMBER" (.int 13)
  cONE : KnowsG K mg "ONE" (.tup [.int 1, .int 1])
  cZERO : KnowsG K mg "ZERO" (.tup [.int 0, .int 1])
  cOLD : KnowsG K mg "OLD" (.str "old")
  cMODES : KnowsG K mg "MODES" (.tup [.str "write", .str "latch", .str "touch", .str "trim"])
  cTAILS : KnowsG K mg "TAILS" (.tup [.str "stop", .str "on"])
  dPARTS : KnowsD K w mg "PARTS" [("mode", 1), ("from", 2), ("to", 3), ("touches", 4), ("glide", 5), ("tail", 6)]
  cPASS_PARTS : KnowsG K mg "PASS_PARTS" (.int 7)
  gBadValue : mg "BadValue" = some (.ref a.BadValue)
  gBadName : mg "BadName" = some (.ref a.BadName)
  gNoAnswer : mg "NoAnswer" = some (.ref a.NoAnswer)
  gInvalidText : mg "InvalidText" = some (.ref a.InvalidText)
  gInvalidLength : mg "InvalidLength" = some (.ref a.InvalidLength)
  gInvalidPass : mg "InvalidPass" = some (.ref a.InvalidPass)
  gInvalidPlace : mg "InvalidPlace" = some (.ref a.InvalidPlace)
  gInvalidChange : mg "InvalidChange" = some (.ref a.InvalidChange)
  gInvalidWish : mg "InvalidWish" = some (.ref a.InvalidWish)
  gInvalidIndex : mg "InvalidIndex" = some (.ref a.InvalidIndex)
  gNotATrack : mg "NotATrack" = some (.ref a.NotATrack)
  gInvalidPasses : mg "InvalidPasses" = some (.ref a.InvalidPasses)
  gUnknownName : mg "UnknownName" = some (.ref a.UnknownName)
  gNothingToUndo : mg "NothingToUndo" = some (.ref a.NothingToUndo)
  gTooMany : mg "TooMany" = some (.ref a.TooMany)
  gBroken : mg "Broken" = some (.ref a.Broken)
  gTrack : mg "Track" = some (.ref a.Track)
  kiTrack : KI K a.Track
  clTrack : Cls K a.Track
  ki0Track : ∀ m ∈ tyNames, PySem.W.kitOne K (.type m) (.ref a.Track) = some false
  nTrack_held_length : NoAttr K a.Track "held_length"
  nTrack_held_passes : NoAttr K a.Track "held_passes"
  gPart : mg "Part" = some (.ref a.Part)
  kiPart : KI K a.Part
  clPart : Cls K a.Part
  ki0Part : ∀ m ∈ tyNames, PySem.W.kitOne K (.type m) (.ref a.Part) = some false
  nPart_first : NoAttr K a.Part "first"
  nPart_end : NoAttr K a.Part "end"
  nPart_terms : NoAttr K a.Part "terms"
  gZone : mg "Zone" = some (.ref a.Zone)
  kiZone : KI K a.Zone
  clZone : Cls K a.Zone
  ki0Zone : ∀ m ∈ tyNames, PySem.W.kitOne K (.type m) (.ref a.Zone) = some false
  nZone_first : NoAttr K a.Zone "first"
  nZone_end : NoAttr K a.Zone "end"
  nZone_word : NoAttr K a.Zone "word"
  nZone_place : NoAttr K a.Zone "place"
  nZone_weight : NoAttr K a.Zone "weight"
  gDesk : mg "Desk" = some (.ref a.Desk)
  kiDesk : KI K a.Desk
  clDesk : Cls K a.Desk
  ki0Desk : ∀ m ∈ tyNames, PySem.W.kitOne K (.type m) (.ref a.Desk) = some false
  nDesk_held : NoAttr K a.Desk "held"
  nDesk_past : NoAttr K a.Desk "past"
end TP
end
section
set_option maxRecDepth 100000
set_option maxHeartbeats 1000000
set_option exponentiation.threshold 1000
/-! values.py: what each def computes. -/
namespace TP
open PySem PySem.Spec PyProof.Rows DL
open L2 hiding Room FnOk takes0
/-! ### the mathematics -/
theorem gcd_step {x y : Int} (hx : 0 ≤ x) (hy : 0 < y) : Int.gcd y (x % y) = Int.gcd x y := by
  obtain ⟨a, rfl⟩ := Int.eq_ofNat_of_zero_le hx
  obtain ⟨b, rfl⟩ := Int.eq_ofNat_of_zero_le (Int.le_of_lt hy)
  show Nat.gcd (b : Int).natAbs (((a : Int) % (b : Int))).natAbs = Nat.gcd (a : Int).natAbs (b : Int).natAbs
  rw [show ((a : Int) % (b : Int)) = ((a % b : Nat) : Int) from (Int.natCast_emod a b).symm]
  simp only [Int.natAbs_natCast]
  rw [Nat.gcd_comm b (a % b), ← Nat.gcd_rec, Nat.gcd_comm]
theorem gcd_abs (t b : Int) : Int.gcd (if t < 0 then -t else t) b = Int.gcd t b := by
  split
  · show Nat.gcd (-t).natAbs b.natAbs = Nat.gcd t.natAbs b.natAbs
    rw [Int.natAbs_neg]
  · rfl
theorem gcd_pos {t b : Int} (hb : 0 < b) : 0 < (Int.gcd t b : Int) := by
  have : 0 < Int.gcd t b := Int.gcd_pos_of_ne_zero_right t (by omega)
  omega
theorem gcd_le {t b : Int} (hb : 0 < b) : (Int.gcd t b : Int) ≤ b := by
  have h : Nat.gcd t.natAbs b.natAbs ≤ b.natAbs := Nat.gcd_le_right _ (by omega)
  show ((Nat.gcd t.natAbs b.natAbs : Nat) : Int) ≤ b
  omega
/-- a fraction in lowest terms -/
def lows (t b : Int) : Int × Int := (t / Int.gcd t b, b / Int.gcd t b)
/-- a pair as data -/
abbrev pr (q : Int × Int) : D := .tup [.int q.1, .int q.2]
def small (i : Int) : Prop := i.natAbs < 2 ^ 400
def isWholeD : D → Bool
  | .int _ => true
  | _ => false
def isIntegerD (d : D) (lo hi : Int) : Bool := match d with
  | .int i => decide (lo ≤ i ∧ i ≤ hi)
  | _ => false
def isTupleOfD (d : D) (n : Int) : Bool := match d with
  | .tup xs => decide ((xs.length : Int) = n)
  | _ => false
/-- a thing whose kind is told by itself: no instance -/
def typed (d : D) : Bool := match d with
  | .non => true
  | .bl _ => true
  | .int _ => true
  | .str _ => true
  | .tup _ => true
  | .lst _ => true
  | .dict _ => true
  | _ => false
/-- the parts of a tuple, too -/
def typed2 (d : D) : Bool := typed d && match d with
  | .tup xs => xs.all typed
  | _ => true
def isBlD : D → Bool
  | .bl _ => true
  | _ => false
def isTupD : D → Bool
  | .tup _ => true
  | _ => false
def isStrD : D → Bool
  | .str _ => true
  | _ => false
theorem typed_name {d : D} {G : GD} (h : typed d = true) : ∃ m, tyName d G = some m ∧ (m == "int") = isWholeD d ∧ isSub m "bool" = isBlD d ∧ isSub m "int" = (isWholeD d || isBlD d) ∧ isSub m "tuple" = isTupD d ∧ isSub m "str" = isStrD d := by
  cases d <;> first
    | exact absurd h Bool.false_ne_true
    | (refine ⟨_, rfl, ?_, ?_, ?_, ?_, ?_⟩ <;> first | (show _ = true; decide +kernel) | (show _ = false; decide +kernel))
def isStretchD (d : D) (lo hi : Int) : Bool := match d with
  | .tup [.int x, .int y] => decide (lo ≤ x ∧ x < y ∧ y ≤ hi)
  | _ => false
def lettersS : Str := "abcdefghijklmnopqrstuvwxyz"
def digitsS : Str := "0123456789"
def signOk (c : Nat) : Bool := decide (c ∈ (lettersS ++ digitsS).cps.toList)
/-- of a text of one sign -/
def signD : D → Bool
  | .str z => (match z.cps.toList with
    | [n] => signOk n
    | _ => false)
  | _ => false
def isNameS (z : Str) : Bool := decide (1 ≤ z.length) && decide (z.length ≤ 8) && (match z.cps.toList with
  | c :: _ => decide (c ∈ lettersS.cps.toList)
  | [] => false) && z.cps.toList.all signOk
def isNameD : D → Bool
  | .str z => isNameS z
  | _ => false
def isLimitD (d : D) : Bool := match d with
  | .tup [.int x, .int y] => decide (0 ≤ x ∧ x ≤ y ∧ 0 < y ∧ Int.gcd x y = 1)
  | _ => false
section
variable {P : Program} {w : World} {K : PySem.W.Frag} {mg : Str → Option Value} {base : Heap} {a : Ad} {f : Addr} {fd : FuncData}
/-! ### is_whole, is_integer -/
def sp_is_whole : SpD := fun ds G Q _ => ∃ d, ds = [d] ∧ typed d = true ∧ Q (.bl (isWholeD d)) G
theorem ok_is_whole (T : Txt K w mg a) (Fu : FunD K "is_whole" "is_whole" (defArgs s_is_whole) (defBody s_is_whole) (defScope s_is_whole) [] [] f fd) : FnD P w K mg base 1 f fd ["value"] sp_is_whole := by
  refine fun_ok Fu sc_is_whole ?_ (fun cdv A outer s H E hr => (dss_one (ds_ret (de_and (de_isi (K := K) (n := "int") T.isinstance T.int_ (by decide +kernel) (by decide) (dv 0)) (de_one (de_not (de_isi (K := K) (n := "bool") T.isinstance T.bool_ (by decide +kernel) (by decide) (dv 0)))))))) ?_
  · rintro ds G Q E ⟨d, rfl, _⟩; rfl
  · rintro ds G Q E ⟨d, rfl, hd, q⟩
    obtain ⟨m, hm, h1, h2, h3, _⟩ := typed_name (G := G) hd
    refine .inl ⟨m, hm, ?_⟩
    rw [h3]
    cases d <;> first
      | exact absurd hd Bool.false_ne_true
      | exact ite2 (fun c => absurd c Bool.false_ne_true) (fun _ => ret q)
      | exact ite2 (fun _ => .inl ⟨m, hm, by rw [h2]; exact ret q⟩) (fun c => absurd rfl c)
def sp_is_integer : SpD := fun ds G Q _ => ∃ d lo hi, ds = [d, .int lo, .int hi] ∧ typed d = true ∧ Q (.bl (isIntegerD d lo hi)) G
theorem ok_is_integer (T : Txt K w mg a) (k_is_whole : Knows P w K mg base "is_whole" 1 [] sp_is_whole) (Fu : FunD K "is_integer" "is_integer" (defArgs s_is_integer) (defBody s_is_integer) (defScope s_is_integer) [] [] f fd) : FnD P w K mg base 2 f fd ["value", "least", "greatest"] sp_is_integer := by
  refine fun_ok Fu sc_is_integer ?_ (fun cdv A outer s H E hr => (dss_one (ds_ret (de_and (de_call k_is_whole (hr.mono (by decide)) tk0 (da_cons (dv 0) da_nil)) (de_one (de_chain le_ok le_ok (dv 1) (dv 0) (dv 2))))))) ?_
  · rintro ds G Q E ⟨d, lo, hi, rfl, _⟩; rfl
  · rintro ds G Q E ⟨d, lo, hi, rfl, hd, q⟩
    refine ⟨d, rfl, hd, ?_⟩
    cases d <;> first
      | exact absurd hd Bool.false_ne_true
      | exact ite2 (fun c => absurd c Bool.false_ne_true) (fun _ => ret q)
      | skip
    rename_i i
    refine ite2 (fun _ => ?_) (fun c => absurd rfl c)
    refine ite2 (fun c => ret ?_) (fun c => ret ?_)
    · have c : lo ≤ i := by simpa using c
      simpa [isIntegerD, c] using q
    · have c : ¬ lo ≤ i := by simpa using c
      simpa [isIntegerD, c] using q
theorem whole_of {d : D} (h : isWholeD d = true) : ∃ i, d = .int i := by
  cases d with
  | int i => exact ⟨i, rfl⟩
  | _ => exact absurd h Bool.false_ne_true
theorem pair_of {d : D} (h : isTupleOfD d 2 = true) : ∃ x y, d = .tup [x, y] := by
  cases d with
  | tup xs =>
    have h : (xs.length : Int) = 2 := of_decide_eq_true h
    match xs, h with
    | [x, y], _ => exact ⟨x, y, rfl⟩
    | [], h => simp at h
    | [_], h => simp at h
    | _ :: _ :: _ :: _, h => simp at h; omega
  | _ => exact absurd h Bool.false_ne_true
/-! ### is_tuple_of, is_stretch -/
def sp_is_tuple_of : SpD := fun ds G Q _ => ∃ d n, ds = [d, .int n] ∧ typed d = true ∧ Q (.bl (isTupleOfD d n)) G
theorem ok_is_tuple_of (T : Txt K w mg a) (Fu : FunD K "is_tuple_of" "is_tuple_of" (defArgs s_is_tuple_of) (defBody s_is_tuple_of) (defScope s_is_tuple_of) [] [] f fd) : FnD P w K mg base 1 f fd ["value", "many"] sp_is_tuple_of := by
  refine fun_ok Fu sc_is_tuple_of ?_ (fun cdv A outer s H E hr => (dss_one (ds_ret (de_and (de_isi (K := K) (n := "tuple") T.isinstance T.tuple_ (by decide +kernel) (by decide) (dv 0)) (de_one (de_cmp (eq_ok hr.units) (de_callB len_okD T.len (by decide +kernel) (da_cons (dv 0) da_nil)) (dv 1) (nomark _))))))) ?_
  · rintro ds G Q E ⟨d, n, rfl, _⟩; rfl
  · rintro ds G Q E ⟨d, n, rfl, hd, q⟩
    obtain ⟨m, hm, _, _, _, h4, _⟩ := typed_name (G := G) hd
    refine .inl ⟨m, hm, ?_⟩
    rw [h4]
    cases d <;> first
      | exact absurd hd Bool.false_ne_true
      | exact ite2 (fun c => absurd c Bool.false_ne_true) (fun _ => ret q)
      | exact ite2 (fun _ => ⟨_, rfl, ret q⟩) (fun c => absurd rfl c)
def sp_is_stretch : SpD := fun ds G Q _ => ∃ d lo hi, ds = [d, .int lo, .int hi] ∧ typed2 d = true ∧ Q (.bl (isStretchD d lo hi)) G
theorem ok_is_stretch (T : Txt K w mg a) (k_is_whole : Knows P w K mg base "is_whole" 1 [] sp_is_whole) (k_is_tuple_of : Knows P w K mg base "is_tuple_of" 1 [] sp_is_tuple_of)
    (Fu : FunD K "is_stretch" "is_stretch" (defArgs s_is_stretch) (defBody s_is_stretch) (defScope s_is_stretch) [] [] f fd) : FnD P w K mg base 2 f fd ["value", "least", "greatest"] sp_is_stretch := by
  refine fun_ok Fu sc_is_stretch ?_ (fun cdv A outer s H E hr => (dss_cons (ds_if (dt_w (dw_or (dt_not (dt_val (de_call k_is_tuple_of (hr.mono (by decide)) tk0 (da_cons (dv 0) (da_cons de_int da_nil))))) (dw_or1 (dt_not (dt_val (de_callB (all_okD rfl) T.all (by decide +kernel) (da_cons (de_lc rfl sc_is_stretch.nd (BlkD.mk (own := [("tick", 3)]) (di_seq (dv 0)) (blkOk_by (N := N_is_stretch) (sc := defScope s_is_stretch) (own := [("tick", 3)]) (by decide +kernel)) (fun _ _ _ _ _ => (dgw_name (i := 3) sc_is_stretch.nd rfl (Or.inl rfl) (by decide))) (fun _ _ _ _ _ => dts_nil) (fun _ _ _ _ _ => (de_call k_is_whole (hr.mono (by decide)) takes0 (da_cons (dv 3) da_nil))))) da_nil))))))) (dss_one (ds_ret de_bl)) dss_nil)
      (dss_one (ds_ret (de_chain3 le_ok lt_ok le_ok (dv 1) (de_ix (dv 0) de_int) (de_ix (dv 0) de_int) (dv 2)))))) ?_
  · rintro ds G Q E ⟨d, lo, hi, rfl, _⟩; rfl
  · rintro ds G Q E ⟨d, lo, hi, rfl, hd, q⟩
    obtain ⟨h1, h2⟩ := Bool.and_eq_true_iff.mp hd
    refine ⟨d, 2, rfl, h1, ?_⟩
    by_cases hl : isTupleOfD d 2 = true
    · obtain ⟨x, y, rfl⟩ := pair_of hl
      rw [hl]
      simp only [List.all_cons, List.all_nil, Bool.and_true, Bool.and_eq_true] at h2
      refine ite_ff ⟨_, rfl, comp1 (fun x => .bl (isWholeD x)) (fun z hz R r => ⟨z, rfl, ?_, r⟩) (by show 2 ≤ sizeLine; decide) ⟨[isWholeD x, isWholeD y], rfl, ?_⟩⟩
      · simp only [List.mem_cons, List.not_mem_nil, or_false] at hz
        rcases hz with rfl | rfl
        · exact h2.1
        · exact h2.2
      · by_cases hw : isWholeD x = true ∧ isWholeD y = true
        · obtain ⟨⟨i, rfl⟩, ⟨j, rfl⟩⟩ := And.intro (whole_of hw.1) (whole_of hw.2)
          have e : ∀ b, isStretchD (.tup [.int i, .int j]) lo hi = b → Q (.bl b) G := fun b e => e ▸ q
          refine ite_ff ⟨_, .int i, rfl, rfl, ite2 (fun c1 => ⟨_, .int j, rfl, rfl, ite2 (fun c2 => ret (e _ ?_)) (fun c2 => ret (e _ ?_))⟩) (fun c1 => ret (e _ ?_))⟩
          · have c1 : lo ≤ i := of_decide_eq_true c1
            have c2 : i < j := of_decide_eq_true c2
            simp [isStretchD, c1, c2]
          · have c2 : ¬ i < j := fun z => c2 (decide_eq_true z)
            simp [isStretchD, c2]
          · have c1 : ¬ lo ≤ i := fun z => c1 (decide_eq_true z)
            simp [isStretchD, c1]
        · have e : isStretchD (.tup [x, y]) lo hi = false := by
            cases h : isStretchD (.tup [x, y]) lo hi with
            | false => rfl
            | true =>
              unfold isStretchD at h
              split at h
              · rename_i heq
                cases heq
                exact absurd ⟨rfl, rfl⟩ hw
              · cases h
          rw [e] at q
          have e2 : [isWholeD x, isWholeD y].all id = false := by
            simp only [List.all_cons, List.all_nil, id, Bool.and_true]
            cases h : (isWholeD x && isWholeD y) with
            | false => rfl
            | true => exact absurd (Bool.and_eq_true_iff.mp h) hw
          rw [e2]
          exact ite_tt (ret q)
    · have e : isTupleOfD d 2 = false := by simpa using hl
      rw [e]
      have e2 : isStretchD d lo hi = false := by
        cases h : isStretchD d lo hi with
        | false => rfl
        | true =>
          unfold isStretchD at h
          split at h
          · exact absurd rfl hl
          · cases h
      rw [e2] at q
      exact ite_tt (ite_tt (ret q))
/-! ### common, lowest, minus, times, is_more -/
def sp_common : SpD := fun ds G Q _ => ∃ a b : Int, ds = [.int a, .int b] ∧ 0 ≤ a ∧ 0 ≤ b ∧ Q (.int (Int.gcd a b)) G
theorem ok_common (T : Txt K w mg a) (Fu : FunD K "common" "common" (defArgs s_common) (defBody s_common) (defScope s_common) [] [] f fd) : FnD P w K mg base 1 f fd ["one", "other"] sp_common := by
  refine fun_ok Fu sc_common ?_ (fun cdv A outer s H E hr => (dss_cons (ds_while po0 (dt_cmp gt_ok (dv 1) de_int (nomark _)) (dss_one (ds_par (i := 0) (j := 1) rfl sc_common.nd rfl rfl (by decide) rfl rfl (da_cons (dv 1) (da_cons (de_mod (dv 0) (dv 1)) da_nil)) (by rfl))))
      (dss_one (ds_ret (dv 0))))) ?_
  · rintro ds G Q E ⟨a, b, rfl, _⟩; rfl
  · rintro ds G Q E ⟨a, b, rfl, ha, hb, q⟩
    refine ⟨fun m s G' => G' = G ∧ ∃ x y : Int, s = [some (.int x), some (.int y)] ∧ 0 ≤ x ∧ 0 ≤ y ∧ m = y.toNat ∧ Int.gcd x y = Int.gcd a b, ⟨b.toNat, rfl, a, b, rfl, ha, hb, rfl, rfl⟩, ?_⟩
    rintro m s G' ⟨rfl, x, y, rfl, hx, hy, rfl, e⟩
    refine ite2 (fun c => ?_) (fun c => ?_)
    · have c : 0 < y := of_decide_eq_true c
      have h1 := Int.emod_nonneg x (by omega : y ≠ 0)
      have h2 := Int.emod_lt_of_pos x c
      exact ⟨c, (x % y).toNat, by omega, rfl, y, x % y, rfl, hy, h1, rfl, by rw [gcd_step hx c, e]⟩
    · have c : ¬ 0 < y := fun z => c (decide_eq_true z)
      have e0 : y = 0 := by omega
      subst e0
      refine ret ?_
      rw [← e] at q
      simpa [Int.gcd, Int.natAbs_of_nonneg hx] using q
def sp_lowest : SpD := fun ds G Q _ => ∃ t b : Int, ds = [.int t, .int b] ∧ 0 < b ∧ small b ∧ Q (pr (lows t b)) G
theorem ok_lowest (T : Txt K w mg a) (k_common : Knows P w K mg base "common" 1 [] sp_common) (Fu : FunD K "lowest" "lowest" (defArgs s_lowest) (defBody s_lowest) (defScope s_lowest) [] [] f fd) : FnD P w K mg base 2 f fd ["top", "bottom"] sp_lowest := by
  refine fun_ok Fu sc_lowest ?_ (fun cdv A outer s H E hr => (dss_cons (ds_set (i := 2) sc_lowest.nd rfl (Or.inl rfl) (de_call k_common (hr.mono (by decide)) tk0 (da_cons (de_callB abs_okD T.abs (by decide +kernel) (da_cons (dv 0) da_nil)) (da_cons (dv 1) da_nil))))
      (dss_one (ds_ret (de_tup (da_cons (de_fdiv (dv 0) (dv 2)) (da_cons (de_fdiv (dv 1) (dv 2)) da_nil))))))) ?_
  · rintro ds G Q E ⟨a, b, rfl, _⟩; rfl
  · rintro ds G Q E ⟨t, b, rfl, hb, hz, q⟩
    refine ⟨_, b, rfl, by split <;> omega, by omega, ?_⟩
    have hg := gcd_pos (t := t) hb
    have hl := gcd_le (t := t) hb
    have hd : ∀ i, CDivW i (Int.gcd t b : Int) := fun i => wide_div (b := 400) hg (by unfold small at hz; omega) (by decide) (by decide)
    rw [gcd_abs]
    exact ⟨hd _, hd _, by show 2 ≤ sizeLine; decide, ret q⟩
theorem mulOk {x y : Int} (hx : x.natAbs < 2 ^ 150) (hy : y.natAbs < 2 ^ 150) : IntMulOk x y := (mulx_ok hx hy (by decide)).ok
theorem mul_lt {x y : Int} (hx : x.natAbs < 2 ^ 150) (hy : y.natAbs < 2 ^ 150) : (x * y).natAbs < 2 ^ 300 := by
  rw [Int.natAbs_mul]
  have h := Nat.mul_lt_mul'' hx hy
  rwa [← Nat.pow_add] at h
def fracOk (p : Int × Int) : Prop := 0 < p.2 ∧ p.1.natAbs < 2 ^ 150 ∧ p.2.natAbs < 2 ^ 150
def sp_minus : SpD := fun ds G Q _ => ∃ p q : Int × Int, ds = [pr p, pr q] ∧ fracOk p ∧ fracOk q ∧ Q (pr (lows (p.1 * q.2 - q.1 * p.2) (p.2 * q.2))) G
theorem ok_minus (T : Txt K w mg a) (k_lowest : Knows P w K mg base "lowest" 2 [] sp_lowest) (Fu : FunD K "minus" "minus" (defArgs s_minus) (defBody s_minus) (defScope s_minus) [] [] f fd) : FnD P w K mg base 3 f fd ["one", "other"] sp_minus := by
  refine fun_ok Fu sc_minus ?_ (fun cdv A outer s H E hr => (dss_one (ds_ret (de_call k_lowest (hr.mono (by decide)) tk0 (da_cons (de_sub (de_mul (de_ix (dv 0) de_int) (de_ix (dv 1) de_int)) (de_mul (de_ix (dv 1) de_int) (de_ix (dv 0) de_int))) (da_cons (de_mul (de_ix (dv 0) de_int) (de_ix (dv 1) de_int)) da_nil)))))) ?_
  · rintro ds G Q E ⟨a, b, rfl, _⟩; rfl
  · rintro ds G Q E ⟨p, q, rfl, ⟨hp, h1, h2⟩, ⟨hq, h3, h4⟩, k⟩
    have m1 := mul_lt h2 h4
    exact ⟨_, .int p.1, rfl, rfl, _, .int q.2, rfl, rfl, mulOk h1 h4, _, .int q.1, rfl, rfl, _, .int p.2, rfl, rfl, mulOk h3 h2, _, .int p.2, rfl, rfl, _, .int q.2, rfl, rfl, mulOk h2 h4, p.1 * q.2 - q.1 * p.2, p.2 * q.2, rfl, Int.mul_pos hp hq, (by unfold small; omega), ret k⟩
def sp_times : SpD := fun ds G Q _ => ∃ p q : Int × Int, ds = [pr p, pr q] ∧ fracOk p ∧ fracOk q ∧ Q (pr (lows (p.1 * q.1) (p.2 * q.2))) G
theorem ok_times (T : Txt K w mg a) (k_lowest : Knows P w K mg base "lowest" 2 [] sp_lowest) (Fu : FunD K "times" "times" (defArgs s_times) (defBody s_times) (defScope s_times) [] [] f fd) : FnD P w K mg base 3 f fd ["one", "other"] sp_times := by
  refine fun_ok Fu sc_times ?_ (fun cdv A outer s H E hr => (dss_one (ds_ret (de_call k_lowest (hr.mono (by decide)) tk0 (da_cons (de_mul (de_ix (dv 0) de_int) (de_ix (dv 1) de_int)) (da_cons (de_mul (de_ix (dv 0) de_int) (de_ix (dv 1) de_int)) da_nil)))))) ?_
  · rintro ds G Q E ⟨a, b, rfl, _⟩; rfl
  · rintro ds G Q E ⟨p, q, rfl, ⟨hp, h1, h2⟩, ⟨hq, h3, h4⟩, k⟩
    have m1 := mul_lt h2 h4
    exact ⟨_, .int p.1, rfl, rfl, _, .int q.1, rfl, rfl, mulOk h1 h3, _, .int p.2, rfl, rfl, _, .int q.2, rfl, rfl, mulOk h2 h4, p.1 * q.1, p.2 * q.2, rfl, Int.mul_pos hp hq, (by unfold small; omega), ret k⟩
def moreF (p q : Int × Int) : Bool := decide (q.1 * p.2 < p.1 * q.2)
def sp_is_more : SpD := fun ds G Q _ => ∃ p q : Int × Int, ds = [pr p, pr q] ∧ fracOk p ∧ fracOk q ∧ Q (.bl (moreF p q)) G
theorem ok_is_more (T : Txt K w mg a) (Fu : FunD K "is_more" "is_more" (defArgs s_is_more) (defBody s_is_more) (defScope s_is_more) [] [] f fd) : FnD P w K mg base 1 f fd ["one", "other"] sp_is_more := by
  refine fun_ok Fu sc_is_more ?_ (fun cdv A outer s H E hr => (dss_one (ds_ret (de_cmp gt_ok (de_mul (de_ix (dv 0) de_int) (de_ix (dv 1) de_int)) (de_mul (de_ix (dv 1) de_int) (de_ix (dv 0) de_int)) (nomark _))))) ?_
  · rintro ds G Q E ⟨a, b, rfl, _⟩; rfl
  · rintro ds G Q E ⟨p, q, rfl, ⟨hp, h1, h2⟩, ⟨hq, h3, h4⟩, k⟩
    exact ⟨_, .int p.1, rfl, rfl, _, .int q.2, rfl, rfl, mulOk h1 h4, _, .int q.1, rfl, rfl, _, .int p.2, rfl, rfl, mulOk h3 h2, ret k⟩
/-! ### is_limit -/
def sp_is_limit : SpD := fun ds G Q _ => ∃ d, ds = [d] ∧ typed2 d = true ∧ Q (.bl (isLimitD d)) G
theorem ok_is_limit (T : Txt K w mg a) (k_is_whole : Knows P w K mg base "is_whole" 1 [] sp_is_whole) (k_is_tuple_of : Knows P w K mg base "is_tuple_of" 1 [] sp_is_tuple_of) (k_common : Knows P w K mg base "common" 1 [] sp_common)
    (Fu : FunD K "is_limit" "is_limit" (defArgs s_is_limit) (defBody s_is_limit) (defScope s_is_limit) [] [] f fd) : FnD P w K mg base 2 f fd ["value"] sp_is_limit := by
  refine fun_ok Fu sc_is_limit ?_ (fun cdv A outer s H E hr => (dss_cons (ds_if (dt_w (dw_or (dt_not (dt_val (de_call k_is_tuple_of (hr.mono (by decide)) tk0 (da_cons (dv 0) (da_cons de_int da_nil))))) (dw_or1 (dt_not (dt_val (de_callB (all_okD rfl) T.all (by decide +kernel) (da_cons (de_lc rfl sc_is_limit.nd (BlkD.mk (own := [("part", 1)]) (di_seq (dv 0)) (blkOk_by (N := N_is_limit) (sc := defScope s_is_limit) (own := [("part", 1)]) (by decide +kernel)) (fun _ _ _ _ _ => (dgw_name (i := 1) sc_is_limit.nd rfl (Or.inl rfl) (by decide))) (fun _ _ _ _ _ => dts_nil) (fun _ _ _ _ _ => (de_call k_is_whole (hr.mono (by decide)) takes0 (da_cons (dv 1) da_nil))))) da_nil))))))) (dss_one (ds_ret de_bl)) dss_nil)
      (dss_one (ds_ret (de_and (de_chain le_ok le_ok de_int (de_ix (dv 0) de_int) (de_ix (dv 0) de_int)) (de_and (de_cmp gt_ok (de_ix (dv 0) de_int) de_int (nomark _)) (de_one (de_cmp (eq_ok hr.units) (de_call k_common (hr.mono (by decide)) tk0 (da_cons (de_ix (dv 0) de_int) (da_cons (de_ix (dv 0) de_int) da_nil))) de_int (nomark _))))))))) ?_
  · rintro ds G Q E ⟨d, rfl, _⟩; rfl
  · rintro ds G Q E ⟨d, rfl, hd, q⟩
    obtain ⟨h1, h2⟩ := Bool.and_eq_true_iff.mp hd
    refine ⟨d, 2, rfl, h1, ?_⟩
    by_cases hl : isTupleOfD d 2 = true
    · obtain ⟨x, y, rfl⟩ := pair_of hl
      rw [hl]
      simp only [List.all_cons, List.all_nil, Bool.and_true, Bool.and_eq_true] at h2
      refine ite_ff ⟨_, rfl, comp1 (fun x => .bl (isWholeD x)) (fun z hz R r => ⟨z, rfl, ?_, r⟩) (by show 2 ≤ sizeLine; decide) ⟨[isWholeD x, isWholeD y], rfl, ?_⟩⟩
      · simp only [List.mem_cons, List.not_mem_nil, or_false] at hz
        rcases hz with rfl | rfl
        · exact h2.1
        · exact h2.2
      · by_cases hw : isWholeD x = true ∧ isWholeD y = true
        · obtain ⟨⟨i, rfl⟩, ⟨j, rfl⟩⟩ := And.intro (whole_of hw.1) (whole_of hw.2)
          have e : ∀ b, isLimitD (.tup [.int i, .int j]) = b → Q (.bl b) G := fun b e => e ▸ q
          refine ite_ff ⟨_, .int i, rfl, rfl, ite2 (fun c1 => ⟨_, .int j, rfl, rfl, ite2 (fun c2 => ⟨_, .int j, rfl, rfl, ite2 (fun c3 => ?_) (fun c3 => ret (e _ ?_))⟩) (fun c2 => ret (e _ ?_))⟩) (fun c1 => ite_ff (ret (e _ ?_)))⟩
          · have c1 : 0 ≤ i := of_decide_eq_true c1
            have c2 : i ≤ j := of_decide_eq_true c2
            have c3 : 0 < j := of_decide_eq_true c3
            refine ⟨_, .int i, rfl, rfl, _, .int j, rfl, rfl, i, j, rfl, c1, by omega, ret (e _ ?_)⟩
            have z : ((Int.gcd i j : Int) = 1) ↔ Int.gcd i j = 1 := by omega
            simp [isLimitD, c1, c2, c3, z]
          · have c3 : ¬ 0 < j := fun z => c3 (decide_eq_true z)
            simp [isLimitD, c3]
          · have c2 : ¬ i ≤ j := fun z => c2 (decide_eq_true z)
            simp [isLimitD, c2]
          · have c1 : ¬ 0 ≤ i := fun z => c1 (decide_eq_true z)
            simp [isLimitD, c1]
        · have e : isLimitD (.tup [x, y]) = false := by
            cases h : isLimitD (.tup [x, y]) with
            | false => rfl
            | true =>
              unfold isLimitD at h
              split at h
              · rename_i heq
                cases heq
                exact absurd ⟨rfl, rfl⟩ hw
              · cases h
          rw [e] at q
          have e2 : [isWholeD x, isWholeD y].all id = false := by
            simp only [List.all_cons, List.all_nil, id, Bool.and_true]
            cases h : (isWholeD x && isWholeD y) with
            | false => rfl
            | true => exact absurd (Bool.and_eq_true_iff.mp h) hw
          rw [e2]
          exact ite_tt (ret q)
    · have e : isTupleOfD d 2 = false := by simpa using hl
      rw [e]
      have e2 : isLimitD d = false := by
        cases h : isLimitD d with
        | false => rfl
        | true =>
          unfold isLimitD at h
          split at h
          · exact absurd rfl hl
          · cases h
      rw [e2] at q
      exact ite_tt (ite_tt (ret q))
/-! ### is_name -/
def sp_is_name : SpD := fun ds G Q _ => ∃ d, ds = [d] ∧ typed d = true ∧ (∀ z, d = .str z → z.length ≤ sizeLine) ∧ Q (.bl (isNameD d)) G
theorem ok_is_name (T : Txt K w mg a) (Fu : FunD K "is_name" "is_name" (defArgs s_is_name) (defBody s_is_name) (defScope s_is_name) [] [] f fd) : FnD P w K mg base 1 f fd ["value"] sp_is_name := by
  refine fun_ok Fu sc_is_name ?_ (fun cdv A outer s H E hr => (dss_cons (ds_if (dt_w (dw_or (dt_not (dt_val (de_isi (K := K) (n := "str") T.isinstance T.str_ (by decide +kernel) (by decide) (dv 0)))) (dw_or1 (dt_not (dt_chain le_ok le_ok de_int (de_callB len_okD T.len (by decide +kernel) (da_cons (dv 0) da_nil)) (de_const T.cLONGEST_NAME)))))) (dss_one (ds_ret de_bl)) dss_nil)
      (dss_one (ds_ret (de_and (de_cmp in_ok (de_ix (dv 0) de_int) (de_const T.cLETTERS) (by rfl)) (de_one (de_callB (all_okD rfl) T.all (by decide +kernel) (da_cons (de_lc rfl sc_is_name.nd (BlkD.mk (own := [("sign", 1)]) (di_seq (dv 0)) (blkOk_by (N := N_is_name) (sc := defScope s_is_name) (own := [("sign", 1)]) (by decide +kernel)) (fun _ _ _ _ _ => (dgw_name (i := 1) sc_is_name.nd rfl (Or.inl rfl) (by decide))) (fun _ _ _ _ _ => dts_nil) (fun _ _ _ _ _ => (de_cmp in_ok (dv 1) (de_add (de_const T.cLETTERS) (de_const T.cDIGITS)) (by rfl))))) da_nil)))))))) ?_
  · rintro ds G Q E ⟨d, rfl, _⟩; rfl
  · rintro ds G Q E ⟨d, rfl, hd, hz, q⟩
    obtain ⟨m, hm, _, _, _, _, h5⟩ := typed_name (G := G) hd
    refine .inl ⟨m, hm, ?_⟩
    rw [h5]
    cases d with
    | str z =>
      have e : ∀ b, isNameS z = b → Q (.bl b) G := fun b e => e ▸ q
      refine ite_ff ⟨hz z rfl, ite2 (fun c1 => ite2 (fun c2 => ret (e _ ?_)) (fun c2 => ?_)) (fun c1 => ite_tt (ret (e _ ?_)))⟩
      · have c2 : ¬ (z.length : Int) ≤ 8 := fun z => by simp [z] at c2
        have c2 : ¬ z.length ≤ 8 := by omega
        simp [isNameS, c2]
      · have c1 : (1 : Int) ≤ z.length := of_decide_eq_true c1
        have c2 : (z.length : Int) ≤ 8 := by simpa using c2
        have l1 : 1 ≤ z.length := by omega
        have l2 : z.length ≤ 8 := by omega
        cases hc : z.cps.toList with
        | nil =>
          have : z.length = 0 := by
            show z.cps.size = 0
            rw [← Array.length_toList, hc]
            rfl
          omega
        | cons c r =>
          have at0 : atI z.cps.toList 0 = some c := by rw [hc]; exact atI_nat (j := 0) rfl
          refine ⟨hz z rfl, c, at0, c, rfl, ite2 (fun c3 => ?_) (fun c3 => ret (e _ ?_))⟩
          · have c3 : c ∈ lettersS.cps.toList := of_decide_eq_true c3
            refine ⟨_, rfl, comp1 (fun x => .bl (signD x)) (fun x hx R r => ?_) ?_ ⟨z.cps.toList.map signOk, ?_, ret (e _ ?_)⟩⟩
            · obtain ⟨n, _, rfl⟩ := List.mem_map.mp hx
              exact ⟨by show (36 : Nat) ≤ sizeLine; decide, n, rfl, r⟩
            · rw [List.length_map, Array.length_toList]
              exact Nat.le_trans l2 (by decide)
            · rw [List.map_map, List.map_map]
              exact List.map_congr_left fun n _ => by show D.bl (signD (.str ⟨#[n]⟩)) = D.bl (signOk n); rfl
            · rw [List.all_map]
              have e3 : (match z.cps.toList with
                | c :: _ => decide (c ∈ lettersS.cps.toList)
                | [] => false) = true := by rw [hc]; exact decide_eq_true c3
              unfold isNameS
              rw [e3, decide_eq_true l1, decide_eq_true l2]
              simp [Function.comp_def]
          · have e3 : (match z.cps.toList with
              | c :: _ => decide (c ∈ lettersS.cps.toList)
              | [] => false) = false := by
              rw [hc]
              exact decide_eq_false fun z => c3 (decide_eq_true z)
            unfold isNameS
            rw [e3]
            simp
      · have c1 : ¬ (1 : Int) ≤ z.length := fun z => c1 (decide_eq_true z)
        have c1 : ¬ 1 ≤ z.length := by omega
        simp [isNameS, c1]
    | _ => first
      | exact absurd hd Bool.false_ne_true
      | exact ite_tt (ite_tt (ret q))
end
end TP
end
section
set_option maxRecDepth 100000
set_option maxHeartbeats 1000000
/-! tracks.py: what a pass is. -/
namespace TP
open PySem PySem.Spec PyProof.Rows DL
open L2 hiding Room FnOk takes0
def isWordD (d : D) (xs : List Str) : Bool := match d with
  | .str z => decide (z ∈ xs)
  | _ => false
theorem in_strs (z : Str) : ∀ xs : List Str, inD (.str z) (xs.map D.str) = decide (z ∈ xs)
  | [] => by simp [inD]
  | x :: xs => by
    have ih := in_strs z xs
    unfold inD at ih ⊢
    rw [List.map_cons, List.any_cons, ih]
    have e : eqF (.str x) (.str z) = (x == z) := rfl
    rw [e]
    by_cases h : x = z
    · subst h; simp
    · have h' : ¬ z = x := fun e => h e.symm
      simp [h, h']
theorem flat_strsD (xs : List Str) : (xs.map D.str).all flatD = true := by
  rw [List.all_map]
  exact List.all_eq_true.mpr fun _ _ => rfl
section
variable {P : Program} {w : World} {K : PySem.W.Frag} {mg : Str → Option Value} {base : Heap} {a : Ad} {f : Addr} {fd : FuncData}
def sp_is_word : SpD := fun ds G Q _ => ∃ d wd xs, ds = [d, wd] ∧ typed d = true ∧ (∀ z, wd ≠ .str z) ∧ seqOf wd G = some (xs.map D.str) ∧ Q (.bl (isWordD d xs)) G
theorem ok_is_word (T : Txt K w mg a) (Fu : FunD K "is_word" "is_word" (defArgs s_is_word) (defBody s_is_word) (defScope s_is_word) [] [] f fd) : FnD P w K mg base 1 f fd ["value", "words"] sp_is_word := by
  refine fun_ok Fu sc_is_word ?_ (fun cdv A outer s H E hr => (dss_one (ds_ret (de_and (de_isi (K := K) (n := "str") T.isinstance T.str_ (by decide +kernel) (by decide) (dv 0)) (de_one (de_cmp in_ok (dv 0) (dv 1) (by rfl))))))) ?_
  · rintro ds G Q E ⟨d, wd, xs, rfl, _⟩; rfl
  · rintro ds G Q E ⟨d, wd, xs, rfl, hd, hw, hx, q⟩
    obtain ⟨m, hm, _, _, _, _, h5⟩ := typed_name (G := G) hd
    refine .inl ⟨m, hm, ?_⟩
    rw [h5]
    cases d with
    | str z =>
      refine ite_tt ?_
      cases wd with
      | str y => exact absurd rfl (hw y)
      | _ => exact ⟨_, hx, rfl, flat_strsD xs, by rw [in_strs]; exact ret q⟩
    | _ => first
      | exact absurd hd Bool.false_ne_true
      | exact ite_ff (ret q)
/-! ### are_touches -/
/-- what is a tuple of stretches with gaps -/
def gapsD : List D → Bool
  | .tup [_, .int y] :: .tup [.int x, z] :: r => decide (y < x) && gapsD (.tup [.int x, z] :: r)
  | _ => true
def areTouchesD (d : D) (lo hi : Int) : Bool := match d with
  | .tup xs => decide (xs.length ≤ 6) && xs.all (fun x => isStretchD x lo hi) && gapsD xs
  | _ => false
/-- a tuple's parts, and theirs -/
def typed3 (d : D) : Bool := typed d && match d with
  | .tup xs => xs.all typed2
  | _ => true
theorem stretch_of {d : D} {lo hi : Int} (h : isStretchD d lo hi = true) : ∃ x y, d = .tup [.int x, .int y] := by
  unfold isStretchD at h
  split at h
  · exact ⟨_, _, rfl⟩
  · cases h
def gapD : D → D → Bool
  | .tup [_, .int y], .tup [.int x, _] => decide (y < x)
  | _, _ => false
theorem gaps_all : ∀ xs : List D, (∀ z ∈ xs, ∃ x y, z = D.tup [.int x, .int y]) → (List.zipWith gapD xs xs.tail).all id = gapsD xs
  | [], _ => rfl
  | [x], _ => by
    cases x <;> first | rfl | (unfold gapsD; split <;> first | rfl | simp_all)
  | x :: y :: r, h => by
    obtain ⟨x1, x2, rfl⟩ := h x List.mem_cons_self
    obtain ⟨y1, y2, rfl⟩ := h y (List.mem_cons_of_mem _ List.mem_cons_self)
    have ih := gaps_all (.tup [.int y1, .int y2] :: r) fun z hz => h z (List.mem_cons_of_mem _ hz)
    show (gapD _ _ && (List.zipWith gapD _ _).all id) = (decide (x2 < y1) && gapsD _)
    rw [← ih]
    rfl
theorem cut_tail (xs : List D) : cutD xs (some 1) none = xs.tail := by
  cases xs with
  | nil => rfl
  | cons x r =>
    have e : HT.sIx (x :: r).length 0 (some 1) = 1 := by
      show (if (1 : Int) < 0 then ((1 : Int) + ((x :: r).length : Int)).toNat else min (1 : Int).toNat (x :: r).length) = 1
      rw [if_neg (by omega)]
      simp
    unfold DL.cutD
    rw [e]
    show r.take ((x :: r).length - 1) = r
    simp
theorem pairs_mem {x y : D} : ∀ {xs ys : List D}, D.tup [x, y] ∈ pairsD xs ys → x ∈ xs ∧ y ∈ ys
  | [], _, h => by simp [pairsD] at h
  | _ :: _, [], h => by simp [pairsD] at h
  | a :: xs, b :: ys, h => by
    have h : D.tup [x, y] ∈ D.tup [a, b] :: pairsD xs ys := h
    rcases List.mem_cons.mp h with e | h
    · cases e
      exact ⟨List.mem_cons_self, List.mem_cons_self⟩
    · obtain ⟨h1, h2⟩ := pairs_mem h
      exact ⟨List.mem_cons_of_mem _ h1, List.mem_cons_of_mem _ h2⟩
def sp_are_touches : SpD := fun ds G Q _ => ∃ d lo hi, ds = [d, .int lo, .int hi] ∧ typed3 d = true ∧ (∀ xs, d = .tup xs → xs.length ≤ sizeLine) ∧ Q (.bl (areTouchesD d lo hi)) G
theorem ok_are_touches (T : Txt K w mg a) (k_is_stretch : Knows P w K mg base "is_stretch" 2 [] sp_is_stretch) (Fu : FunD K "are_touches" "are_touches" (defArgs s_are_touches) (defBody s_are_touches) (defScope s_are_touches) [] [] f fd) : FnD P w K mg base 3 f fd ["value", "first", "end"] sp_are_touches := by
  refine fun_ok Fu sc_are_touches ?_ (fun cdv A outer s H E hr => (dss_cons (ds_if (dt_w (dw_or (dt_not (dt_val (de_isi (K := K) (n := "tuple") T.isinstance T.tuple_ (by decide +kernel) (by decide) (dv 0)))) (dw_or1 (dt_cmp gt_ok (de_callB len_okD T.len (by decide +kernel) (da_cons (dv 0) da_nil)) (de_const T.cMOST_TOUCHES) (nomark _))))) (dss_one (ds_ret de_bl)) dss_nil)
      (dss_cons (ds_if (dt_not (dt_val (de_callB (all_okD rfl) T.all (by decide +kernel) (da_cons (de_lc rfl sc_are_touches.nd (BlkD.mk (own := [("touch", 3)]) (di_seq (dv 0)) (blkOk_by (N := N_are_touches) (sc := defScope s_are_touches) (own := [("touch", 3)]) (by decide +kernel)) (fun _ _ _ _ _ => (dgw_name (i := 3) sc_are_touches.nd rfl (Or.inl rfl) (by decide))) (fun _ _ _ _ _ => dts_nil) (fun _ _ _ _ _ => (de_call k_is_stretch (hr.mono (by decide)) takes0 (da_cons (dv 3) (da_cons (dv 1) (da_cons (dv 2) da_nil))))))) da_nil)))) (dss_one (ds_ret de_bl)) dss_nil)
      (dss_one (ds_ret (de_callB (all_okD rfl) T.all (by decide +kernel) (da_cons (de_lc rfl sc_are_touches.nd (BlkD.mk (own := [("one", 4), ("other", 5)]) (di_zip T.zip (da_cons (dv 0) (da_cons (de_slice (dv 0) (do_some de_int) do_none) da_nil))) (blkOk_by (N := N_are_touches) (sc := defScope s_are_touches) (own := [("one", 4), ("other", 5)]) (by decide +kernel)) (fun _ _ _ _ _ => (dgw_tup (n := 2) rfl (dgsw_cons (dgw_name (i := 4) sc_are_touches.nd rfl (Or.inl rfl) (by decide)) (dgsw_cons (dgw_name (i := 5) sc_are_touches.nd rfl (Or.inl rfl) (by decide)) dgsw_nil)))) (fun _ _ _ _ _ => dts_nil) (fun _ _ _ _ _ => (de_cmp lt_ok (de_ix (dv 4) de_int) (de_ix (dv 5) de_int) (nomark _))))) da_nil))))))) ?_
  · rintro ds G Q E ⟨d, lo, hi, rfl, _⟩; rfl
  · rintro ds G Q E ⟨d, lo, hi, rfl, hd, hz, q⟩
    obtain ⟨h1, h2⟩ := Bool.and_eq_true_iff.mp hd
    obtain ⟨m, hm, _, _, _, h4, _⟩ := typed_name (G := G) h1
    refine .inl ⟨m, hm, ?_⟩
    rw [h4]
    cases d with
    | tup xs =>
      have e : ∀ b, areTouchesD (.tup xs) lo hi = b → Q (.bl b) G := fun b e => e ▸ q
      have tz : ∀ z ∈ xs, typed2 z = true := fun z hz => List.all_eq_true.mp h2 z hz
      refine ite_ff ⟨xs, rfl, ite2 (fun c => ret (e _ ?_)) (fun c => ⟨xs, rfl, comp1 (fun x => .bl (isStretchD x lo hi)) (fun z hm R r => ⟨z, lo, hi, rfl, tz z hm, r⟩) (hz xs rfl) ⟨xs.map fun x => isStretchD x lo hi, ?_, ?_⟩⟩)⟩
      · have c : (xs.length : Int) > 6 := of_decide_eq_true c
        have c : ¬ xs.length ≤ 6 := by omega
        simp [areTouchesD, c]
      · rw [List.map_map]; rfl
      · have c : ¬ (xs.length : Int) > 6 := fun z => c (decide_eq_true z)
        have c : xs.length ≤ 6 := by omega
        rw [List.all_map]
        refine ite2 (fun c2 => ret (e _ ?_)) (fun c2 => ?_)
        · have c2 : (xs.all fun x => isStretchD x lo hi) = false := by simpa [Function.comp_def] using c2
          simp only [areTouchesD, c2, Bool.and_false, Bool.false_and]
        · have c2 : (xs.all fun x => isStretchD x lo hi) = true := by simpa [Function.comp_def] using c2
          have st : ∀ z ∈ xs, ∃ x y, z = .tup [.int x, .int y] := fun z hm => stretch_of (List.all_eq_true.mp c2 z hm)
          have el : cutD xs (some 1) none = xs.tail := cut_tail xs
          show compD _ _ _ _ _ (pairsD xs (cutD xs (some 1) none)) [] _ _
          rw [el]
          refine comp2 (fun x y => .bl (gapD x y)) (fun x y hm R r => ?_) ?_ ⟨List.zipWith gapD xs xs.tail, ?_, ret (e _ ?_)⟩
          · obtain ⟨m1, m2⟩ := pairs_mem hm
            obtain ⟨x1, x2, rfl⟩ := st x m1
            obtain ⟨y1, y2, rfl⟩ := st y (List.mem_of_mem_tail m2)
            exact ⟨_, .int x2, rfl, rfl, _, .int y1, rfl, rfl, r⟩
          · rw [pairsD_len]
            have := hz xs rfl
            simp only [List.length_nil]
            omega
          · rw [List.nil_append, List.map_zipWith]
          · show ((decide (xs.length ≤ 6) && xs.all fun x => isStretchD x lo hi) && gapsD xs) = _
            rw [c2, decide_eq_true c, Bool.true_and, Bool.true_and]
            exact (gaps_all xs st).symm
    | _ => first
      | exact absurd h1 Bool.false_ne_true
      | exact ite_tt (ite_tt (ret q))
end
end TP
end
section
set_option maxRecDepth 100000
set_option maxHeartbeats 1000000
/-! tracks.py: is_pass. -/
namespace TP
open PySem PySem.Spec PyProof.Rows DL
open L2 hiding Room FnOk takes0
def modesS : List Str := ["write", "latch", "touch", "trim"]
def tailsS : List Str := ["stop", "on"]
/-- what may be asked whether it is a pass: its parts are told by their kinds, the texts and tuples are no longer than a line -/
def shortD : D → Prop
  | .str z => z.length ≤ sizeLine
  | .tup xs => xs.length ≤ sizeLine
  | _ => True
def askable (d : D) : Prop := typed d = true ∧ match d with
  | .tup [n, m, x, y, ts, g, t] => (typed n = true ∧ shortD n) ∧ typed m = true ∧ typed x = true ∧ typed y = true ∧ (typed3 ts = true ∧ shortD ts) ∧ typed g = true ∧ typed t = true
  | _ => True
def isPassD (d : D) (len : Int) (ns : List Str) : Bool := match d with
  | .tup [.str n, m, .int x, .int y, ts, g, t] => isNameS n && !decide (n = "old") && !decide (n ∈ ns) && isWordD m modesS && isStretchD (.tup [.int x, .int y]) 0 len && areTouchesD ts x y && isIntegerD g 0 100 && isWordD t tailsS
  | _ => false
def restD (z : Str) (m x y ts g t : D) (len : Int) (ns : List Str) : Bool := match x, y with
  | .int i, .int j => !decide (z = "old") && !decide (z ∈ ns) && isWordD m modesS && isStretchD (.tup [.int i, .int j]) 0 len && areTouchesD ts i j && isIntegerD g 0 100 && isWordD t tailsS
  | _, _ => false
theorem seven_of {d : D} (h : isTupleOfD d 7 = true) : ∃ n m x y ts g t, d = .tup [n, m, x, y, ts, g, t] := by
  cases d with
  | tup xs =>
    have h : (xs.length : Int) = 7 := of_decide_eq_true h
    match xs, h with
    | [n, m, x, y, ts, g, t], _ => exact ⟨n, m, x, y, ts, g, t, rfl⟩
    | [], h => simp at h
    | [_], h => simp at h
    | [_, _], h => simp at h
    | [_, _, _], h => simp at h
    | [_, _, _, _], h => simp at h
    | [_, _, _, _, _], h => simp at h
    | [_, _, _, _, _, _], h => simp at h
    | _ :: _ :: _ :: _ :: _ :: _ :: _ :: _ :: _, h => simp at h; omega
  | _ => exact absurd h Bool.false_ne_true
theorem in_names {z : Str} {nd : D} {ns : List Str} {G : GD} {Q : KD} (hns : ∀ z, nd ≠ .str z) (hsq : seqOf nd G = some (ns.map D.str)) (q : Q (.bl (decide (z ∈ ns))) G) : DL.inR (.str z) nd G Q := by
  cases nd with
  | str y => exact absurd rfl (hns y)
  | _ => exact ⟨_, hsq, rfl, flat_strsD ns, by rw [in_strs]; exact q⟩
section
variable {P : Program} {w : World} {K : PySem.W.Frag} {mg : Str → Option Value} {base : Heap} {a : Ad} {f : Addr} {fd : FuncData}
def sp_is_pass : SpD := fun ds G Q _ => ∃ d len nd ns, ds = [d, .int len, nd] ∧ askable d ∧ (∀ z, nd ≠ .str z) ∧ seqOf nd G = some (ns.map D.str) ∧ Q (.bl (isPassD d len ns)) G
theorem ok_is_pass (T : Txt K w mg a) (k_is_tuple_of : Knows P w K mg base "is_tuple_of" 1 [] sp_is_tuple_of) (k_is_name : Knows P w K mg base "is_name" 1 [] sp_is_name) (k_is_word : Knows P w K mg base "is_word" 1 [] sp_is_word)
    (k_is_stretch : Knows P w K mg base "is_stretch" 2 [] sp_is_stretch) (k_are_touches : Knows P w K mg base "are_touches" 3 [] sp_are_touches) (k_is_integer : Knows P w K mg base "is_integer" 2 [] sp_is_integer)
    (Fu : FunD K "is_pass" "is_pass" (defArgs s_is_pass) (defBody s_is_pass) (defScope s_is_pass) [] [] f fd) : FnD P w K mg base 4 f fd ["value", "length", "names"] sp_is_pass := by
  refine fun_ok Fu sc_is_pass ?_ (fun cdv A outer s H E hr => (dss_cons (ds_if (dt_not (dt_val (de_call k_is_tuple_of (hr.mono (by decide)) tk0 (da_cons (dv 0) (da_cons (de_const T.cPASS_PARTS) da_nil))))) (dss_one (ds_ret de_bl)) dss_nil)
      (dss_cons (ds_asg (dv 0) (dg_tup (n := 7) rfl (dgs_cons (dg_name (i := 3) sc_is_pass.nd rfl (Or.inl rfl)) (dgs_cons (dg_name (i := 4) sc_is_pass.nd rfl (Or.inl rfl)) (dgs_cons (dg_name (i := 5) sc_is_pass.nd rfl (Or.inl rfl)) (dgs_cons (dg_name (i := 6) sc_is_pass.nd rfl (Or.inl rfl)) (dgs_cons (dg_name (i := 7) sc_is_pass.nd rfl (Or.inl rfl)) (dgs_cons (dg_name (i := 8) sc_is_pass.nd rfl (Or.inl rfl)) (dgs_cons (dg_name (i := 9) sc_is_pass.nd rfl (Or.inl rfl)) dgs_nil)))))))))
      (dss_cons (ds_if (dt_w (dw_or (dt_not (dt_val (de_call k_is_name (hr.mono (by decide)) tk0 (da_cons (dv 3) da_nil)))) (dw_or (dt_cmp (eq_ok hr.units) (dv 3) (de_const T.cOLD) (nomark _)) (dw_or (dt_cmp in_ok (dv 3) (dv 2) (by rfl)) (dw_or1 (dt_not (dt_val (de_call k_is_word (hr.mono (by decide)) tk0 (da_cons (dv 4) (da_cons (de_const T.cMODES) da_nil)))))))))) (dss_one (ds_ret de_bl)) dss_nil)
      (dss_cons (ds_if (dt_w (dw_or (dt_not (dt_val (de_call k_is_stretch (hr.mono (by decide)) tk0 (da_cons (de_tup (da_cons (dv 5) (da_cons (dv 6) da_nil))) (da_cons de_int (da_cons (dv 1) da_nil)))))) (dw_or1 (dt_not (dt_val (de_call k_are_touches (hr.mono (by decide)) tk0 (da_cons (dv 7) (da_cons (dv 5) (da_cons (dv 6) da_nil))))))))) (dss_one (ds_ret de_bl)) dss_nil)
      (dss_one (ds_ret (de_and (de_call k_is_integer (hr.mono (by decide)) tk0 (da_cons (dv 8) (da_cons de_int (da_cons (de_const T.cMOST_GLIDE) da_nil)))) (de_one (de_call k_is_word (hr.mono (by decide)) tk0 (da_cons (dv 9) (da_cons (de_const T.cTAILS) da_nil)))))))))))) ?_
  · rintro ds G Q E ⟨d, len, nd, ns, rfl, _⟩; rfl
  · generalize hin : DL.inR = rin
    rintro ds G Q E ⟨d, len, nd, ns, rfl, hd, hns, hsq, q⟩
    refine ⟨d, 7, rfl, hd.1, ?_⟩
    by_cases hl : isTupleOfD d 7 = true
    · obtain ⟨n, m, x, y, ts, g, t, rfl⟩ := seven_of hl
      obtain ⟨_, ⟨tn, zn⟩, tm, tx, ty, ⟨tts, zts⟩, tg, tt⟩ := hd
      have e : ∀ b, isPassD (.tup [n, m, x, y, ts, g, t]) len ns = b → Q (.bl b) G := fun b e => e ▸ q
      rw [hl]
      refine ite_ff ⟨rfl, ?_⟩
      refine ⟨n, rfl, tn, fun z hz => by subst hz; exact zn, ?_⟩
      cases hn : isNameD n with
      | false => exact ite_tt (ite_tt (ret (e _ (by cases n <;> first | rfl | (simp only [isNameD] at hn; simp [isPassD, hn] <;> (split <;> simp_all))))))
      | true =>
        obtain ⟨z, rfl⟩ : ∃ z, n = .str z := by cases n <;> first | exact ⟨_, rfl⟩ | exact absurd hn Bool.false_ne_true
        have hn : isNameS z = true := hn
        have e : ∀ b, restD z m x y ts g t len ns = b → Q (.bl b) G := fun b h => e b (by
          rw [← h]
          cases x <;> first | rfl | (cases y <;> first | rfl | simp [isPassD, restD, hn]))
        refine ite_ff (ite2 (fun c => ite_tt (ret (e _ ?_))) (fun c => ?_))
        · have c : z = "old" := of_decide_eq_true c
          unfold restD; split <;> simp [c]
        show rin (.str z) nd G _
        subst hin
        have c : ¬ z = "old" := fun h => c (decide_eq_true h)
        refine in_names hns hsq (ite2 (fun c2 => ite_tt (ret (e _ ?_))) (fun c2 => ⟨m, _, modesS, rfl, tm, (fun _ h => by cases h), rfl, ?_⟩))
        · have c2 : z ∈ ns := of_decide_eq_true c2
          unfold restD; split <;> simp [c2]
        · have c2 : ¬ z ∈ ns := fun h => c2 (decide_eq_true h)
          cases hm : isWordD m modesS with
          | false => exact ite_tt (ret (e _ (by unfold restD; split <;> simp [hm])))
          | true =>
            refine ite_ff ⟨by show 2 ≤ sizeLine; decide, .tup [x, y], 0, len, rfl, by show (true && (typed x && (typed y && true))) = true; rw [tx, ty]; rfl, ?_⟩
            cases hs : isStretchD (.tup [x, y]) 0 len with
            | false => exact ite_tt (ite_tt (ret (e _ (by unfold restD; split <;> simp [hs]))))
            | true =>
              obtain ⟨i, j, hxy⟩ := stretch_of hs
              cases hxy
              refine ite_ff ⟨ts, i, j, rfl, tts, fun xs h => by subst h; exact zts, ?_⟩
              cases ht : areTouchesD ts i j with
              | false => exact ite_tt (ret (e _ (by simp [restD, ht])))
              | true =>
                refine ite_ff ⟨g, 0, 100, rfl, tg, ite2 (fun c3 => ⟨t, _, tailsS, rfl, tt, (fun _ h => by cases h), rfl, ret (e _ ?_)⟩) (fun c3 => ret (e _ ?_))⟩
                · simp [restD, c, c2, hm, hs, ht, c3]
                · simp [restD, c3]
    · have e : isTupleOfD d 7 = false := by simpa using hl
      rw [e]
      have e2 : isPassD d len ns = false := by
        cases h : isPassD d len ns with
        | false => rfl
        | true =>
          unfold isPassD at h
          split at h
          · exact absurd rfl hl
          · cases h
      rw [e2] at q
      exact ite_tt (ret q)
end
end TP
end
section
set_option maxRecDepth 100000
set_option maxHeartbeats 1000000
/-! tracks.py: the track. -/
namespace TP
open PySem PySem.Spec PyProof.Rows DL
open L2 hiding Room FnOk takes0
/-- a pass -/
structure Pass where
  name : Str
  mode : Str
  first : Int
  last : Int
  touches : List (Int × Int)
  glide : Int
  tail : Str
abbrev Pass.d (p : Pass) : D := .tup [.str p.name, .str p.mode, .int p.first, .int p.last, .tup (p.touches.map pr), .int p.glide, .str p.tail]
/-- a track, as data -/
abbrev trackD (a : Ad) (n : Int) (ps : List Pass) : D := .ins a.Track [("held_length", .int n), ("held_passes", .tup (ps.map Pass.d))]
section
variable {P : Program} {w : World} {K : PySem.W.Frag} {mg : Str → Option Value} {base : Heap} {a : Ad} {f : Addr} {fd : FuncData}
def sp_Track_length : SpD := fun ds G Q _ => ∃ n ps, ds = [trackD a n ps] ∧ Q (.int n) G
theorem ok_Track_length (T : Txt K w mg a) (Fu : FunD K "length" "Track.length" (defArgs s_Track_length) (defBody s_Track_length) (defScope s_Track_length) [] [] f fd) : FnD P w K mg base 1 f fd ["self"] (sp_Track_length (a := a)) := by
  refine fun_ok Fu sc_Track_length ?_ (fun cdv A outer s H E hr => (dss_one (ds_ret (de_fld T.clTrack T.nTrack_held_length (dv 0))))) ?_
  · rintro ds G Q E ⟨n, ps, rfl, _⟩; rfl
  · rintro ds G Q E ⟨n, ps, rfl, q⟩
    exact ⟨_, _, rfl, rfl, ret q⟩
def sp_Track_passes : SpD := fun ds G Q _ => ∃ n ps, ds = [trackD a n ps] ∧ Q (.tup (ps.map Pass.d)) G
theorem ok_Track_passes (T : Txt K w mg a) (Fu : FunD K "passes" "Track.passes" (defArgs s_Track_passes) (defBody s_Track_passes) (defScope s_Track_passes) [] [] f fd) : FnD P w K mg base 1 f fd ["self"] (sp_Track_passes (a := a)) := by
  refine fun_ok Fu sc_Track_passes ?_ (fun cdv A outer s H E hr => (dss_one (ds_ret (de_fld T.clTrack T.nTrack_held_passes (dv 0))))) ?_
  · rintro ds G Q E ⟨n, ps, rfl, _⟩; rfl
  · rintro ds G Q E ⟨n, ps, rfl, q⟩
    exact ⟨_, _, rfl, rfl, ret q⟩
/-! ### names: as a tuple, and as a tuple by address -/
def headD : D → D
  | .tup (n :: _) => n
  | _ => .non
theorem heads (ps : List Pass) : (ps.map Pass.d).map headD = (ps.map (·.name)).map D.str := by
  rw [List.map_map, List.map_map]
  rfl
def sp_Track_names : SpD := fun ds G Q _ => ∃ n ps, ds = [trackD a n ps] ∧ ps.length ≤ sizeLine ∧ Q (.tup ((ps.map (·.name)).map D.str)) G
theorem ok_Track_names (T : Txt K w mg a) (Fu : FunD K "names" "Track.names" (defArgs s_Track_names) (defBody s_Track_names) (defScope s_Track_names) [] [] f fd) : FnD P w K mg base 1 f fd ["self"] (sp_Track_names (a := a)) := by
  refine fun_ok Fu sc_Track_names ?_ (fun cdv A outer s H E hr => (dss_one (ds_ret (de_callTy tuple_okD T.tuple_ (by decide +kernel) (da_cons (de_lc rfl sc_Track_names.nd (BlkD.mk (own := [("one_pass", 1)]) (di_seq (de_fld T.clTrack T.nTrack_held_passes (dv 0))) (blkOk_by (N := N_Track_names) (sc := defScope s_Track_names) (own := [("one_pass", 1)]) (by decide +kernel)) (fun _ _ _ _ _ => (dgw_name (i := 1) sc_Track_names.nd rfl (Or.inl rfl) (by decide))) (fun _ _ _ _ _ => dts_nil) (fun _ _ _ _ _ => (de_ix (dv 1) de_int)))) da_nil))))) ?_
  · rintro ds G Q E ⟨n, ps, rfl, _⟩; rfl
  · rintro ds G Q E ⟨n, ps, rfl, hz, q⟩
    refine ⟨_, _, rfl, rfl, _, rfl, comp1 headD (fun x hx R r => ?_) (by rw [List.length_map]; exact hz) ?_⟩
    · obtain ⟨p, _, rfl⟩ := List.mem_map.mp hx
      exact ⟨_, _, rfl, rfl, r⟩
    · rw [heads]
      exact ⟨_, rfl, ret q⟩
def sp_Track_namesN : SpD := fun ds G Q _ => ∃ n ps, ds = [trackD a n ps] ∧ ps.length ≤ sizeLine ∧ ∀ p, G p = none → Q (.ref p) (put G p (.tup ((ps.map (·.name)).map D.str)))
theorem ok_Track_namesN (T : Txt K w mg a) (Fu : FunD K "names" "Track.names" (defArgs s_Track_names) (defBody s_Track_names) (defScope s_Track_names) [] [] f fd) : FnD P w K mg base 1 f fd ["self"] (sp_Track_namesN (a := a)) := by
  refine fun_ok Fu sc_Track_names ?_ (fun cdv A outer s H E hr => (dss_one (ds_ret (de_callTy tupleN_okD T.tuple_ (by decide +kernel) (da_cons (de_lc rfl sc_Track_names.nd (BlkD.mk (own := [("one_pass", 1)]) (di_seq (de_fld T.clTrack T.nTrack_held_passes (dv 0))) (blkOk_by (N := N_Track_names) (sc := defScope s_Track_names) (own := [("one_pass", 1)]) (by decide +kernel)) (fun _ _ _ _ _ => (dgw_name (i := 1) sc_Track_names.nd rfl (Or.inl rfl) (by decide))) (fun _ _ _ _ _ => dts_nil) (fun _ _ _ _ _ => (de_ix (dv 1) de_int)))) da_nil))))) ?_
  · rintro ds G Q E ⟨n, ps, rfl, _⟩; rfl
  · rintro ds G Q E ⟨n, ps, rfl, hz, q⟩
    refine ⟨_, _, rfl, rfl, _, rfl, comp1 headD (fun x hx R r => ?_) (by rw [List.length_map]; exact hz) ?_⟩
    · obtain ⟨p, _, rfl⟩ := List.mem_map.mp hx
      exact ⟨_, _, rfl, rfl, r⟩
    · rw [heads]
      exact ⟨_, rfl, fun p hp => ret (q p hp)⟩
/-! ### value in track -/
def hasName (d : D) (ps : List Pass) : Bool := isWordD d (ps.map (·.name))
def sp_Track_contains : SpD := fun ds G Q _ => ∃ n ps d, ds = [trackD a n ps, d] ∧ ps.length ≤ sizeLine ∧ typed d = true ∧ Q (.bl (hasName d ps)) G
theorem ok_Track_contains (T : Txt K w mg a) (k_Track_names : KnowsP P w K mg base a.Track "names" 1 (sp_Track_names (a := a))) (Fu : FunD K "__contains__" "Track.__contains__" (defArgs s_Track___contains__) (defBody s_Track___contains__) (defScope s_Track___contains__) [] [] f fd) :
    FnD P w K mg base 3 f fd ["self", "value"] (sp_Track_contains (a := a)) := by
  refine fun_ok Fu sc_Track___contains__ ?_ (fun cdv A outer s H E hr => (dss_one (ds_ret (de_and (de_isi (K := K) (n := "str") T.isinstance T.str_ (by decide +kernel) (by decide) (dv 1)) (de_one (de_cmp in_ok (dv 1) (de_prop T.clTrack k_Track_names (hr.mono (by decide)) (dv 0)) (by rfl))))))) ?_
  · rintro ds G Q E ⟨n, ps, d, rfl, _⟩; rfl
  · rintro ds G Q E ⟨n, ps, d, rfl, hz, hd, q⟩
    obtain ⟨m, hm, _, _, _, _, h5⟩ := typed_name (G := G) hd
    refine .inl ⟨m, hm, ?_⟩
    rw [h5]
    cases d with
    | str z =>
      refine ite_tt ⟨_, rfl, n, ps, rfl, hz, ?_⟩
      exact in_names (fun _ h => by cases h) rfl (ret q)
    | _ => first
      | exact absurd hd Bool.false_ne_true
      | exact ite_ff (ret q)
end
end TP
end
section
set_option maxRecDepth 100000
set_option maxHeartbeats 1000000
/-! tracks.py: a track made. -/
namespace TP
open PySem PySem.Spec PyProof.Rows DL
open L2 hiding Room FnOk takes0
theorem retL {K : PySem.W.Frag} {Q : KD} {d : D} {G G' : GD} (l : Less G' G) (q : Q d G') : retD K Q d G := ⟨d, G', fun F H v A r => ⟨F, stp_less l, A.less l, r⟩, q⟩
/-- passes one behind another, each right beside the names ahead -/
def passesOk (n : Int) : List Str → List Pass → Bool
  | _, [] => true
  | ns, p :: ps => isPassD p.d n ns && passesOk n (ns ++ [p.name]) ps
section
variable {P : Program} {w : World} {K : PySem.W.Frag} {mg : Str → Option Value} {base : Heap} {a : Ad} {f : Addr} {fd : FuncData}
/-- right ones: nothing is raised -/
def sp_Track_init : SpD := fun ds G Q _ => ∃ t n ps, ds = [.ref t, .int n, .tup (ps.map Pass.d)] ∧ G t = some (.ins a.Track []) ∧ 1 ≤ n ∧ n ≤ 10 ^ 12 ∧ ps.length ≤ 8 ∧ (∀ p ∈ ps, askable p.d) ∧ passesOk n [] ps = true ∧ Q .non (put G t (.ins a.Track [("held_length", .int n), ("held_passes", .tup (ps.map Pass.d))]))
theorem ok_Track_init {dvs : List V} (T : Txt K w mg a) (k_is_integer : Knows P w K mg base "is_integer" 2 [] sp_is_integer) (k_is_pass : Knows P w K mg base "is_pass" 4 [] sp_is_pass) (k_InvalidLength : KnowsX1 P w K mg base "InvalidLength" a.InvalidLength "given") (k_InvalidPasses : KnowsX1 P w K mg base "InvalidPasses" a.InvalidPasses "index")
    (Fu : FunD K "__init__" "Track.__init__" (defArgs s_Track___init__) (defBody s_Track___init__) (defScope s_Track___init__) dvs [] f fd) : FnD P w K mg base 5 f fd ["self", "length", "passes"] (sp_Track_init (a := a)) := by
  refine fun_ok Fu sc_Track___init__ ?_ (fun cdv A outer s H E hr => (dss_cons (ds_if (dt_not (dt_val (de_call k_is_integer (hr.mono (by decide)) tk0 (da_cons (dv 1) (da_cons de_int (da_cons (de_const T.cMOST_LENGTH) da_nil)))))) (dss_one (ds_raise1 k_InvalidLength (hr.mono (by decide)) tk0 (da_cons (dv 1) da_nil))) dss_nil)
      (dss_cons (ds_if (dt_not (dt_val (de_isi (K := K) (n := "tuple") T.isinstance T.tuple_ (by decide +kernel) (by decide) (dv 2)))) (dss_one (ds_raise1 k_InvalidPasses (hr.mono (by decide)) tk0 (da_cons de_non da_nil))) dss_nil)
      (dss_cons (ds_set (i := 3) sc_Track___init__.nd rfl (Or.inl rfl) (de_lstM da_nil))
      (dss_cons (ds_for po0 rfl (di_enum T.enumerate (da_cons (dv 2) da_nil)) (dg_tup (n := 2) rfl (dgs_cons (dg_name (i := 4) sc_Track___init__.nd rfl (Or.inl rfl)) (dgs_cons (dg_name (i := 5) sc_Track___init__.nd rfl (Or.inl rfl)) dgs_nil))) (dss_cons (ds_if (dt_w (dw_or (dt_cmp (eq_ok hr.units) (dv 4) (de_const T.cMOST_PASSES) (nomark _)) (dw_or1 (dt_not (dt_val (de_call k_is_pass (hr.mono (by decide)) tk0 (da_cons (dv 5) (da_cons (dv 1) (da_cons (dv 3) da_nil))))))))) (dss_one (ds_raise1 k_InvalidPasses (hr.mono (by decide)) tk0 (da_cons (dv 4) da_nil))) dss_nil)
      (dss_one (ds_expr (de_append (dv 3) (da_cons (de_ix (dv 5) de_int) da_nil))))))
      (dss_cons (ds_fld T.clTrack T.nTrack_held_length (dv 0) (dv 1))
      (dss_one (ds_fld T.clTrack T.nTrack_held_passes (dv 0) (dv 2))))))))) ?_
  · rintro ds G Q E ⟨t, n, ps, rfl, _⟩; rfl
  · rintro ds G Q E ⟨t, n, ps, rfl, ht, h1, h2, h8, hask, hok, q⟩
    refine ⟨.int n, 1, _, rfl, rfl, ?_⟩
    have e : isIntegerD (.int n) 1 1000000000000 = true := decide_eq_true ⟨h1, by omega⟩
    rw [e]
    obtain ⟨m, hm, _, _, _, h4, _⟩ := typed_name (d := .tup (ps.map Pass.d)) (G := G) rfl
    refine ite_ff (.inl ⟨m, hm, ?_⟩)
    rw [h4]
    refine ite_ff ⟨by decide, fun p hp => ?_⟩
    have hpt : p ≠ t := fun z => by rw [z, ht] at hp; cases hp
    refine loop_inv (fun rest s G' => ∃ done left o1 o2, ps = done ++ left ∧ rest = enumD done.length (left.map Pass.d) ∧ s = [some (.ref t), some (.int n), some (.tup (ps.map Pass.d)), some (.ref p), o1, o2] ∧ G' = put G p (.lst ((done.map (·.name)).map D.str)) ∧ passesOk n (done.map (·.name)) left = true) ?_ ?_ ⟨[], ps, none, none, rfl, rfl, rfl, rfl, hok⟩
    · rintro d ds s G' ⟨done, left, o1, o2, hps, hr, rfl, rfl, hk⟩ R hR
      cases left with
      | nil => cases hr
      | cons p1 left =>
        cases hr
        obtain ⟨hk1, hk2⟩ := Bool.and_eq_true_iff.mp (show (isPassD p1.d n (done.map (·.name)) && passesOk n (done.map (·.name) ++ [p1.name]) left) = true from hk)
        have hl : done.length < 8 := by have := congrArg List.length hps; simp at this; omega
        refine ⟨rfl, ite2 (fun c => ?_) (fun c => ⟨p1.d, n, .ref p, done.map (·.name), rfl, hask p1 (by rw [hps]; simp), (fun _ h => by cases h), ?_, ?_⟩)⟩
        · have c : (done.length : Int) = 8 := of_decide_eq_true c
          omega
        · show (match put G p (HOD.lst _) p with
            | some (.lst xs) => some xs
            | _ => none) = _
          rw [put_same]
        · rw [hk1]
          refine ite_ff ⟨p, _, rfl, put_same, _, .str p1.name, rfl, rfl, _, put_same, ?_, hR _ _ ⟨done ++ [p1], left, _, _, by rw [hps]; simp, by simp, rfl, ?_, by simpa using hk2⟩⟩
          · simp only [List.length_map]
            exact Nat.lt_of_lt_of_le hl (by decide)
          · rw [put_put]
            simp
    · rintro s G' ⟨done, left, o1, o2, hps, hr, rfl, rfl, hk⟩
      refine ⟨t, [], rfl, by rw [put_ne hpt.symm]; exact ht, by decide, t, _, rfl, put_same, by show 1 < 1000; decide, ?_⟩
      refine retL (fun b o hb => ?_) q
      rw [put_put]
      by_cases hbt : b = t
      · subst hbt
        rw [put_same] at hb ⊢
        exact hb
      · rw [put_ne hbt] at hb ⊢
        rw [put_ne (fun z => by rw [z, hp] at hb; cases hb)]
        exact hb
end
end TP
end
section
set_option maxRecDepth 100000
set_option maxHeartbeats 1000000
/-! tracks.py: the index of a pass. -/
namespace TP
open PySem PySem.Spec PyProof.Rows DL
open L2 hiding Room FnOk takes0
theorem idx_at {z : Str} : ∀ {ns : List Str}, z ∈ ns → ns[ns.idxOf z]? = some z ∧ ∀ m, m < ns.idxOf z → ns[m]? ≠ some z
  | x :: ns, h => by
    by_cases e : x = z
    · subst e
      simp
    · have h' : z ∈ ns := by
        rcases List.mem_cons.mp h with h | h
        · exact absurd h.symm e
        · exact h
      obtain ⟨h1, h2⟩ := idx_at h'
      have ei : (x :: ns).idxOf z = ns.idxOf z + 1 := by
        have eb : (x == z) = false := beq_eq_false_iff_ne.mpr e
        rw [List.idxOf_cons, eb]
        rfl
      rw [ei]
      refine ⟨by simpa using h1, fun m hm => ?_⟩
      cases m with
      | zero => simpa using e
      | succ m => simpa using h2 m (by omega)
section
variable {P : Program} {w : World} {K : PySem.W.Frag} {mg : Str → Option Value} {base : Heap} {a : Ad} {f : Addr} {fd : FuncData}
def sp_index_of : SpD := fun ds G Q E => ∃ n ps d, ds = [trackD a n ps, d] ∧ ps.length ≤ sizeLine ∧ typed d = true ∧ (hasName d ps = false → E (.ref a.UnknownName) [("given", d)] G) ∧ ∀ z, d = .str z → z ∈ ps.map (·.name) → Q (.int ((ps.map (·.name)).idxOf z : Nat)) G
theorem ok_index_of (T : Txt K w mg a) (k_Track___contains__ : KnowsS P w K mg base a.Track "__contains__" 3 (sp_Track_contains (a := a))) (k_Track_names : KnowsP P w K mg base a.Track "names" 1 (sp_Track_namesN (a := a))) (k_UnknownName : KnowsX1 P w K mg base "UnknownName" a.UnknownName "given")
    (Fu : FunD K "index_of" "index_of" (defArgs s_index_of) (defBody s_index_of) (defScope s_index_of) [] [] f fd) : FnD P w K mg base 5 f fd ["track", "name"] (sp_index_of (a := a)) := by
  refine fun_ok Fu sc_index_of ?_ (fun cdv A outer s H E hr => (dss_cons (ds_if (dt_cmp (ownNotIn_ok k_Track___contains__ (hr.mono (by decide))) (dv 1) (dv 0) (by rfl)) (dss_one (ds_raise1 k_UnknownName (hr.mono (by decide)) tk0 (da_cons (dv 1) da_nil))) dss_nil)
      (dss_one (ds_ret (de_index (de_prop T.clTrack k_Track_names (hr.mono (by decide)) (dv 0)) (da_cons (dv 1) da_nil)))))) ?_
  · rintro ds G Q E ⟨n, ps, d, rfl, _⟩; rfl
  · rintro ds G Q E ⟨n, ps, d, rfl, hz, hd, q1, q2⟩
    refine ⟨_, rfl, n, ps, d, rfl, hz, hd, _, rfl, ?_⟩
    cases h : hasName d ps with
    | false => exact ite_tt ⟨G, .refl G, q1 h⟩
    | true =>
      obtain ⟨z, rfl⟩ : ∃ z, d = .str z := by cases d <;> first | exact ⟨_, rfl⟩ | exact absurd h Bool.false_ne_true
      have hm : z ∈ ps.map (·.name) := of_decide_eq_true h
      obtain ⟨h1, h2⟩ := idx_at hm
      refine ite_ff ⟨_, rfl, n, ps, rfl, hz, fun p hp => ⟨p, ps.map (·.name), rfl, put_same, z, _, rfl, put_same, h1, h2, retL (fun b o hb => ?_) (q2 z rfl hm)⟩⟩
      rw [put_ne (fun e => by rw [e, hp] at hb; cases hb)]
      exact hb
end
end TP
end
section
set_option maxRecDepth 100000
set_option maxHeartbeats 1000000
/-! tracks.py: changes of a track. -/
namespace TP
open PySem PySem.Spec PyProof.Rows DL
open L2 hiding Room FnOk takes0
theorem ret_made {K : PySem.W.Frag} {Q : KD} {C x : Addr} {fs : List (Str × D)} {o : HOD} {G : GD} (hx : G x = none) (q : Q (.ins C fs) G) : retD K Q (.ref x) (put (put G x o) x (.ins C fs)) :=
  ⟨_, G, (Can.ins put_same).trans (Can.less fun b u hb => by
    have e : b ≠ x := fun z => by rw [z, hx] at hb; cases hb
    unfold DL.del
    rw [if_neg e, put_ne e, put_ne e]
    exact hb), q⟩
theorem cut_to (xs : List D) (j : Nat) : DL.cutD xs none (some (j : Int)) = xs.take j := by
  unfold DL.cutD
  rw [HT.sIx_none, HT.sIx_nat]
  simp only [List.drop_zero, Nat.sub_zero]
  by_cases h : j ≤ xs.length
  · rw [Nat.min_eq_left h]
  · rw [Nat.min_eq_right (by omega), List.take_of_length_le (Nat.le_refl _), List.take_of_length_le (by omega)]
theorem cut_from (xs : List D) (j : Nat) : DL.cutD xs (some (j : Int)) none = xs.drop j := by
  unfold DL.cutD
  rw [HT.sIx_none, HT.sIx_nat]
  by_cases h : j ≤ xs.length
  · rw [Nat.min_eq_left h, List.take_of_length_le (by simp)]
  · rw [Nat.min_eq_right (by omega)]
    simp only [Nat.sub_self, List.take_zero]
    rw [List.drop_of_length_le (by omega)]
/-- a right pass beside none -/
abbrev right (n : Int) (p : Pass) : Bool := isPassD p.d n []
theorem right_iff {n : Int} {p : Pass} {ns : List Str} : isPassD p.d n ns = (right n p && !decide (p.name ∈ ns)) := by
  show (isNameS p.name && !decide (p.name = "old") && !decide (p.name ∈ ns) && isWordD (.str p.mode) modesS && _ && _ && _ && _) = ((isNameS p.name && !decide (p.name = "old") && !decide (p.name ∈ ([] : List Str)) && isWordD (.str p.mode) modesS && _ && _ && _ && _) && !decide (p.name ∈ ns))
  have e : (!decide (p.name ∈ ([] : List Str))) = true := by simp
  rw [e]
  cases isNameS p.name <;> cases (!decide (p.name = "old")) <;> cases (!decide (p.name ∈ ns)) <;> simp
/-- a right track -/
structure TrackOk (n : Int) (ps : List Pass) : Prop where
  lo : 1 ≤ n
  hi : n ≤ 10 ^ 12
  few : ps.length ≤ 8
  ask : ∀ p ∈ ps, askable p.d
  right : ∀ p ∈ ps, right n p = true
  nd : (ps.map (·.name)).Nodup
theorem passesOk_of {n : Int} : ∀ {ps : List Pass} {ns : List Str}, (∀ p ∈ ps, right n p = true) → (ns ++ ps.map (·.name)).Nodup → passesOk n ns ps = true
  | [], _, _, _ => rfl
  | p :: ps, ns, h, nd => by
    have nd' : ((ns ++ [p.name]) ++ ps.map (·.name)).Nodup := by simpa using nd
    have hp : p.name ∉ ns := fun z => by
      rw [List.nodup_append] at nd
      exact nd.2.2 _ z _ (by simp) rfl
    show (isPassD p.d n ns && passesOk n (ns ++ [p.name]) ps) = true
    rw [right_iff, h p List.mem_cons_self, passesOk_of (fun q hq => h q (List.mem_cons_of_mem _ hq)) nd']
    simp [hp]
theorem TrackOk.ok {n : Int} {ps : List Pass} (h : TrackOk n ps) : passesOk n [] ps = true := passesOk_of h.right (by simpa using h.nd)
def without (ps : List Pass) (j : Nat) : List Pass := ps.take j ++ ps.drop (j + 1)
theorem TrackOk.sub {n : Int} {ps qs : List Pass} (h : TrackOk n ps) (s : qs.Sublist ps) : TrackOk n qs :=
  ⟨h.lo, h.hi, Nat.le_trans s.length_le h.few, fun p hp => h.ask p (s.subset hp), fun p hp => h.right p (s.subset hp), h.nd.sublist (s.map _)⟩
theorem without_sub (ps : List Pass) (j : Nat) : (without ps j).Sublist ps := by
  have h := (List.Sublist.refl (ps.take j)).append (List.drop_sublist 1 (ps.drop j))
  rw [List.drop_drop, List.take_append_drop] at h
  exact h
section
variable {P : Program} {w : World} {K : PySem.W.Frag} {mg : Str → Option Value} {base : Heap} {a : Ad} {f : Addr} {fd : FuncData}
def sp_Track_without : SpD := fun ds G Q E => ∃ n ps d, ds = [trackD a n ps, d] ∧ TrackOk n ps ∧ typed d = true ∧ (hasName d ps = false → E (.ref a.UnknownName) [("given", d)] G) ∧ ∀ z, d = .str z → z ∈ ps.map (·.name) → Q (trackD a n (without ps ((ps.map (·.name)).idxOf z))) G
theorem ok_Track_without (T : Txt K w mg a) (k_index_of : Knows P w K mg base "index_of" 5 [] (sp_index_of (a := a))) (k_Track2 : KnowsC P w K mg base a.Track 5 [] (sp_Track_init (a := a)))
    (Fu : FunD K "without" "Track.without" (defArgs s_Track_without) (defBody s_Track_without) (defScope s_Track_without) [] [] f fd) : FnD P w K mg base 7 f fd ["self", "name"] (sp_Track_without (a := a)) := by
  refine fun_ok Fu sc_Track_without ?_ (fun cdv A outer s H E hr => (dss_cons (ds_set (i := 2) sc_Track_without.nd rfl (Or.inl rfl) (de_call k_index_of (hr.mono (by decide)) tk0 (da_cons (dv 0) (da_cons (dv 1) da_nil))))
      (dss_one (ds_ret (de_make (K := K) k_Track2 T.gTrack (hr.mono (by decide)) tk0 (da_cons (de_fld T.clTrack T.nTrack_held_length (dv 0)) (da_cons (de_add (de_slice (de_fld T.clTrack T.nTrack_held_passes (dv 0)) do_none (do_some (dv 2))) (de_slice (de_fld T.clTrack T.nTrack_held_passes (dv 0)) (do_some (de_add (dv 2) de_int)) do_none)) da_nil))))))) ?_
  · rintro ds G Q E ⟨n, ps, d, rfl, _⟩; rfl
  · rintro ds G Q E ⟨n, ps, d, rfl, ht, hd, q1, q2⟩
    refine ⟨n, ps, d, rfl, Nat.le_trans ht.few (by decide), hd, fun h => ⟨G, .refl G, q1 h⟩, fun z hz hm => ?_⟩
    have q := q2 z hz hm
    have hk := ht.sub (without_sub ps ((ps.map (·.name)).idxOf z))
    have ec : DL.cutD (ps.map Pass.d) none (some ((ps.map (·.name)).idxOf z : Nat)) ++ DL.cutD (ps.map Pass.d) (some (((ps.map (·.name)).idxOf z : Nat) + 1 : Int)) none = (without ps ((ps.map (·.name)).idxOf z)).map Pass.d := by
      rw [cut_to, show ((((ps.map (·.name)).idxOf z : Nat) : Int) + 1) = (((ps.map (·.name)).idxOf z + 1 : Nat) : Int) from rfl, cut_from]
      unfold without
      rw [List.map_append, List.map_take, List.map_drop]
    refine ⟨_, .int n, rfl, rfl, _, .tup (ps.map Pass.d), rfl, rfl, _, .tup (ps.map Pass.d), rfl, rfl, ?_, fun x hx => ⟨x, n, without ps ((ps.map (·.name)).idxOf z), ?_, put_same, hk.lo, hk.hi, hk.few, hk.ask, hk.ok, rfl, ret_made hx (ret q)⟩⟩
    · rw [← List.length_append, ec, List.length_map]
      exact Nat.le_trans hk.few (by decide)
    · rw [← ec]
      rfl
end
end TP
end
section
set_option maxRecDepth 100000
set_option maxHeartbeats 1000000
/-! tracks.py: a pass put in. -/
namespace TP
open PySem PySem.Spec PyProof.Rows DL
open L2 hiding Room FnOk takes0
def putAt (ps : List Pass) (j : Nat) (p : Pass) : List Pass := ps.take j ++ p :: ps.drop j
theorem word_of {d : D} {xs : List Str} (h : isWordD d xs = true) : ∃ z, d = .str z := by
  cases d with
  | str z => exact ⟨z, rfl⟩
  | _ => exact absurd h Bool.false_ne_true
theorem integer_of {d : D} {lo hi : Int} (h : isIntegerD d lo hi = true) : ∃ i, d = .int i := by
  cases d with
  | int i => exact ⟨i, rfl⟩
  | _ => exact absurd h Bool.false_ne_true
theorem stretches_of : ∀ {xs : List D} {lo hi : Int}, (xs.all fun x => isStretchD x lo hi) = true → ∃ ts : List (Int × Int), xs = ts.map pr
  | [], _, _, _ => ⟨[], rfl⟩
  | x :: xs, lo, hi, h => by
    rw [List.all_cons, Bool.and_eq_true] at h
    obtain ⟨i, j, rfl⟩ := stretch_of h.1
    obtain ⟨ts, rfl⟩ := stretches_of h.2
    exact ⟨(i, j) :: ts, rfl⟩
theorem pass_of {d : D} {n : Int} {ns : List Str} (h : isPassD d n ns = true) : ∃ p : Pass, d = p.d := by
  unfold isPassD at h
  split at h
  · rename_i z m i j ts g t
    simp only [Bool.and_eq_true] at h
    obtain ⟨⟨⟨⟨⟨_, hm⟩, _⟩, hts⟩, hg⟩, ht⟩ := h
    obtain ⟨m, rfl⟩ := word_of hm
    obtain ⟨t, rfl⟩ := word_of ht
    obtain ⟨g, rfl⟩ := integer_of hg
    cases ts with
    | tup xs =>
      have hts : ((decide (xs.length ≤ 6) && xs.all fun x => isStretchD x i j) && gapsD xs) = true := hts
      simp only [Bool.and_eq_true] at hts
      obtain ⟨tl, rfl⟩ := stretches_of hts.1.2
      exact ⟨⟨z, m, i, j, tl, g, t⟩, rfl⟩
    | _ => exact absurd hts Bool.false_ne_true
  · cases h
theorem perm_putAt (ps : List Pass) (j : Nat) (p : Pass) : (putAt ps j p).Perm (p :: ps) := by
  unfold putAt
  refine List.perm_middle.trans (.cons p ?_)
  rw [List.take_append_drop]
theorem TrackOk.putAt {n : Int} {ps : List Pass} {p : Pass} {j : Nat} (h : TrackOk n ps) (h8 : ps.length < 8) (ha : askable p.d) (hp : isPassD p.d n (ps.map (·.name)) = true) : TrackOk n (putAt ps j p) := by
  have pm := perm_putAt ps j p
  rw [right_iff, Bool.and_eq_true] at hp
  have hn : p.name ∉ ps.map (·.name) := by simpa using hp.2
  refine ⟨h.lo, h.hi, by rw [pm.length_eq, List.length_cons]; omega, fun q hq => ?_, fun q hq => ?_, ?_⟩
  · rcases List.mem_cons.mp (pm.subset hq) with rfl | hq
    · exact ha
    · exact h.ask q hq
  · rcases List.mem_cons.mp (pm.subset hq) with rfl | hq
    · exact hp.1
    · exact h.right q hq
  · rw [(pm.map _).nodup_iff, List.map_cons, List.nodup_cons]
    exact ⟨hn, h.nd⟩
section
variable {P : Program} {w : World} {K : PySem.W.Frag} {mg : Str → Option Value} {base : Heap} {a : Ad} {f : Addr} {fd : FuncData}
/-- None is behind all -/
def spotOf (ps : List Pass) : D → Nat
  | .int i => i.toNat
  | _ => ps.length
def sp_Track_put : SpD := fun ds G Q E => ∃ n ps d pl, ds = [trackD a n ps, d, pl] ∧ TrackOk n ps ∧ askable d ∧ (isPassD d n (ps.map (·.name)) = false → E (.ref a.InvalidPass) [("given", d)] G) ∧
  (isPassD d n (ps.map (·.name)) = true → ps.length < 8 ∧ (pl = .non ∨ ∃ i, pl = .int i ∧ 0 ≤ i ∧ i ≤ ps.length) ∧ ∀ p : Pass, d = p.d → Q (trackD a n (putAt ps (spotOf ps pl) p)) G)
theorem ok_Track_put {dvs : List V} (T : Txt K w mg a) (k_is_pass : Knows P w K mg base "is_pass" 4 [] sp_is_pass) (k_is_integer : Knows P w K mg base "is_integer" 2 [] sp_is_integer) (k_Track_names : KnowsP P w K mg base a.Track "names" 1 (sp_Track_names (a := a)))
    (k_InvalidPass : KnowsX1 P w K mg base "InvalidPass" a.InvalidPass "given") (k_InvalidPlace : KnowsX1 P w K mg base "InvalidPlace" a.InvalidPlace "given") (k_TooMany : KnowsX1 P w K mg base "TooMany" a.TooMany "most") (k_Track2 : KnowsC P w K mg base a.Track 5 [] (sp_Track_init (a := a)))
    (Fu : FunD K "put" "Track.put" (defArgs s_Track_put) (defBody s_Track_put) (defScope s_Track_put) dvs [] f fd) : FnD P w K mg base 7 f fd ["self", "one_pass", "place"] (sp_Track_put (a := a)) := by
  refine fun_ok Fu sc_Track_put ?_ (fun cdv A outer s H E hr => (dss_cons (ds_if (dt_not (dt_val (de_call k_is_pass (hr.mono (by decide)) tk0 (da_cons (dv 1) (da_cons (de_fld T.clTrack T.nTrack_held_length (dv 0)) (da_cons (de_prop T.clTrack k_Track_names (hr.mono (by decide)) (dv 0)) da_nil)))))) (dss_one (ds_raise1 k_InvalidPass (hr.mono (by decide)) tk0 (da_cons (dv 1) da_nil))) dss_nil)
      (dss_cons (ds_if (dt_w (dw_and (dt_cmp isNotN_ok (dv 2) de_non (nomark _)) (dw_and1 (dt_not (dt_val (de_call k_is_integer (hr.mono (by decide)) tk0 (da_cons (dv 2) (da_cons de_int (da_cons (de_callB len_okD T.len (by decide +kernel) (da_cons (de_fld T.clTrack T.nTrack_held_passes (dv 0)) da_nil)) da_nil))))))))) (dss_one (ds_raise1 k_InvalidPlace (hr.mono (by decide)) tk0 (da_cons (dv 2) da_nil))) dss_nil)
      (dss_cons (ds_if (dt_cmp (eq_ok hr.units) (de_callB len_okD T.len (by decide +kernel) (da_cons (de_fld T.clTrack T.nTrack_held_passes (dv 0)) da_nil)) (de_const T.cMOST_PASSES) (nomark _)) (dss_one (ds_raise1 k_TooMany (hr.mono (by decide)) tk0 (da_cons (de_const T.cMOST_PASSES) da_nil))) dss_nil)
      (dss_cons (ds_set (i := 3) sc_Track_put.nd rfl (Or.inl rfl) (de_ifExp (dt_cmp isN_ok (dv 2) de_non (nomark _)) (de_callB len_okD T.len (by decide +kernel) (da_cons (de_fld T.clTrack T.nTrack_held_passes (dv 0)) da_nil)) (dv 2)))
      (dss_one (ds_ret (de_make (K := K) k_Track2 T.gTrack (hr.mono (by decide)) tk0 (da_cons (de_fld T.clTrack T.nTrack_held_length (dv 0)) (da_cons (de_tup (da_star (de_slice (de_fld T.clTrack T.nTrack_held_passes (dv 0)) do_none (do_some (dv 3))) (da_cons (dv 1) (da_star (de_slice (de_fld T.clTrack T.nTrack_held_passes (dv 0)) (do_some (dv 3)) do_none) da_nil)))) da_nil)))))))))) ?_
  · rintro ds G Q E ⟨n, ps, d, pl, rfl, _⟩; rfl
  · rintro ds G Q E ⟨n, ps, d, pl, rfl, ht, hd, q1, q2⟩
    refine ⟨_, .int n, rfl, rfl, _, rfl, n, ps, rfl, Nat.le_trans ht.few (by decide), d, n, _, ps.map (·.name), rfl, hd, (fun _ h => by cases h), rfl, ?_⟩
    cases hp : isPassD d n (ps.map (·.name)) with
    | false => exact ite_tt ⟨G, .refl G, q1 hp⟩
    | true =>
      obtain ⟨p, rfl⟩ := pass_of hp
      obtain ⟨h8, hpl, q⟩ := q2 hp
      have q := q p rfl
      have hk := ht.putAt (j := spotOf ps pl) h8 hd hp
      have n8 : ¬ (((ps.map Pass.d).length : Int) = 8) := by rw [List.length_map]; omega
      have ec : ∀ j : Nat, DL.cutD (ps.map Pass.d) none (some (j : Int)) ++ p.d :: DL.cutD (ps.map Pass.d) (some (j : Int)) none = (putAt ps j p).map Pass.d := fun j => by
        rw [cut_to, cut_from]
        unfold putAt
        rw [List.map_append, List.map_cons, List.map_take, List.map_drop]
      rcases hpl with rfl | ⟨i, rfl, hi0, hi1⟩
      · refine (⟨_, _, rfl, rfl, _, rfl, ite2 (fun c => absurd (of_decide_eq_true c) n8) (fun _ => ?_)⟩)
        have e1 := ec ps.length
        refine ⟨_, _, rfl, rfl, _, rfl, _, .int n, rfl, rfl, _, .tup (ps.map Pass.d), rfl, rfl, _, .tup (ps.map Pass.d), rfl, rfl, ?_, fun x hx => ⟨x, n, putAt ps ps.length p, ?_, put_same, hk.lo, hk.hi, hk.few, hk.ask, hk.ok, rfl, ret_made hx (ret q)⟩⟩
        · show (DL.cutD (ps.map Pass.d) none (some (((ps.map Pass.d).length : Nat) : Int)) ++ p.d :: (DL.cutD (ps.map Pass.d) (some (((ps.map Pass.d).length : Nat) : Int)) none ++ [])).length ≤ sizeLine
          rw [List.append_nil, List.length_map, e1, List.length_map]
          exact Nat.le_trans hk.few (by decide)
        · show [D.ref x, .int n, .tup (DL.cutD (ps.map Pass.d) none (some (((ps.map Pass.d).length : Nat) : Int)) ++ p.d :: (DL.cutD (ps.map Pass.d) (some (((ps.map Pass.d).length : Nat) : Int)) none ++ []))] = _
          rw [List.append_nil, List.length_map, e1]
      · obtain ⟨j, rfl⟩ := Int.eq_ofNat_of_zero_le hi0
        have e1 := ec j
        have ei : isIntegerD (.int (j : Int)) 0 ((ps.map Pass.d).length : Nat) = true := by
          rw [List.length_map]
          exact decide_eq_true ⟨hi0, hi1⟩
        refine ⟨_, _, rfl, rfl, _, rfl, .int j, 0, _, rfl, rfl, ?_⟩
        rw [ei]
        refine ⟨_, _, rfl, rfl, _, rfl, ite2 (fun c => absurd (of_decide_eq_true c) n8) (fun _ => ?_)⟩
        refine ⟨_, .int n, rfl, rfl, _, .tup (ps.map Pass.d), rfl, rfl, _, .tup (ps.map Pass.d), rfl, rfl, ?_, fun x hx => ⟨x, n, putAt ps j p, ?_, put_same, hk.lo, hk.hi, hk.few, hk.ask, hk.ok, rfl, ret_made hx (ret q)⟩⟩
        · show (DL.cutD (ps.map Pass.d) none (some (j : Int)) ++ p.d :: (DL.cutD (ps.map Pass.d) (some (j : Int)) none ++ [])).length ≤ sizeLine
          rw [List.append_nil, e1, List.length_map]
          exact Nat.le_trans hk.few (by decide)
        · show [D.ref x, .int n, .tup (DL.cutD (ps.map Pass.d) none (some (j : Int)) ++ p.d :: (DL.cutD (ps.map Pass.d) (some (j : Int)) none ++ []))] = _
          rw [List.append_nil, e1]
end
end TP
end
section
set_option maxRecDepth 100000
set_option maxHeartbeats 1000000
/-! tracks.py: the text of a track; what is no track. -/
namespace TP
open PySem PySem.Spec PyProof.Rows DL
open L2 hiding Room FnOk takes0
theorem log_ok {i : Int} (h : i.natAbs < 2 ^ 60) : i.natAbs.log2 < 1920 := by
  by_cases e : i.natAbs = 0
  · rw [e]; decide
  · exact Nat.lt_of_lt_of_le ((Nat.log2_lt e).mpr h) (by decide)
abbrev numS (i : Int) : Str := toString i
def touchS (t : Int × Int) : Str := numS t.1 ++ "-" ++ numS t.2
def rowParts (p : Pass) : List Str := [("pass" : Str), p.name, p.mode, numS p.first, numS p.last, numS p.glide, p.tail] ++ p.touches.map touchS
def rowS (p : Pass) : Str := Txt.join " " (rowParts p)
def trackParts (n : Int) (ps : List Pass) : List Str := ("track " ++ numS n) :: ps.map rowS
def trackS (n : Int) (ps : List Pass) : Str := Txt.join "\n" (trackParts n ps)
def tick (i : Int) : Prop := 0 ≤ i ∧ i ≤ 10 ^ 12
theorem tick.small {i : Int} (h : tick i) : i.natAbs < 2 ^ 60 := by
  unfold tick at h; omega
theorem tick.log {i : Int} (h : tick i) : i.natAbs.log2 < 1920 := log_ok h.small
theorem tick.len {i : Int} (h : tick i) : (numS i).length ≤ 13 := toString_length_le h.1 (by decide) (by unfold tick at h; omega)
/-- what of a pass is told by its row -/
structure rowOk (p : Pass) : Prop where
  name : p.name.length ≤ 8
  mode : p.mode.length ≤ 5
  tail : p.tail.length ≤ 4
  first : tick p.first
  last : tick p.last
  glide : 0 ≤ p.glide ∧ p.glide ≤ 100
  few : p.touches.length ≤ 6
  touches : ∀ t ∈ p.touches, tick t.1 ∧ tick t.2
theorem stretch_iff {x y lo hi : Int} : isStretchD (.tup [.int x, .int y]) lo hi = true ↔ lo ≤ x ∧ x < y ∧ y ≤ hi := by simp [isStretchD]
/-- what a right pass has -/
structure RightP (n : Int) (p : Pass) : Prop where
  name : isNameS p.name = true
  old : p.name ≠ "old"
  mode : p.mode ∈ modesS
  ends : 0 ≤ p.first ∧ p.first < p.last ∧ p.last ≤ n
  few : p.touches.length ≤ 6
  touches : ∀ t ∈ p.touches, p.first ≤ t.1 ∧ t.1 < t.2 ∧ t.2 ≤ p.last
  gaps : gapsD (p.touches.map pr) = true
  glide : 0 ≤ p.glide ∧ p.glide ≤ 100
  tail : p.tail ∈ tailsS
theorem right_of {n : Int} {p : Pass} (h : right n p = true) : RightP n p := by
  have h : (isNameS p.name && !decide (p.name = "old") && !decide (p.name ∈ ([] : List Str)) && isWordD (.str p.mode) modesS && isStretchD (.tup [.int p.first, .int p.last]) 0 n && areTouchesD (.tup (p.touches.map pr)) p.first p.last && isIntegerD (.int p.glide) 0 100 && isWordD (.str p.tail) tailsS) = true := h
  simp only [Bool.and_eq_true] at h
  obtain ⟨⟨⟨⟨⟨⟨⟨h1, h2⟩, _⟩, h3⟩, h4⟩, h5⟩, h6⟩, h7⟩ := h
  have h5 : ((decide ((p.touches.map pr).length ≤ 6) && (p.touches.map pr).all fun x => isStretchD x p.first p.last) && gapsD (p.touches.map pr)) = true := h5
  simp only [Bool.and_eq_true, decide_eq_true_eq, List.length_map, List.all_map, List.all_eq_true, Function.comp] at h5
  refine ⟨h1, by simpa using h2, by simpa [isWordD] using h3, stretch_iff.mp h4, h5.1.1, fun t ht => stretch_iff.mp (h5.1.2 t ht), h5.2, by simpa [isIntegerD] using h6, by simpa [isWordD] using h7⟩
theorem right_mk {n : Int} {p : Pass} (h : RightP n p) : right n p = true := by
  show (isNameS p.name && !decide (p.name = "old") && !decide (p.name ∈ ([] : List Str)) && isWordD (.str p.mode) modesS && isStretchD (.tup [.int p.first, .int p.last]) 0 n && ((decide ((p.touches.map pr).length ≤ 6) && (p.touches.map pr).all fun x => isStretchD x p.first p.last) && gapsD (p.touches.map pr)) && isIntegerD (.int p.glide) 0 100 && isWordD (.str p.tail) tailsS) = true
  have e1 : isStretchD (.tup [.int p.first, .int p.last]) 0 n = true := stretch_iff.mpr h.ends
  have e2 : ((p.touches.map pr).all fun x => isStretchD x p.first p.last) = true := by
    rw [List.all_map]
    exact List.all_eq_true.mpr fun t ht => stretch_iff.mpr (h.touches t ht)
  rw [e1, e2, h.gaps, h.name]
  simp [h.old, h.few, isWordD, h.mode, h.tail, isIntegerD, h.glide]
theorem modes_len : ∀ z ∈ modesS, z.length ≤ 5 := by decide +kernel
theorem tails_len : ∀ z ∈ tailsS, z.length ≤ 4 := by decide +kernel
theorem name_len {z : Str} (h : isNameS z = true) : z.length ≤ 8 := by
  unfold isNameS at h
  simp only [Bool.and_eq_true, decide_eq_true_eq] at h
  exact h.1.1.2
theorem rowOk_of {n : Int} {p : Pass} (h : RightP n p) (hn : n ≤ 10 ^ 12) : rowOk p := by
  obtain ⟨h1, h2, h3⟩ := h.ends
  refine ⟨name_len h.name, modes_len _ h.mode, tails_len _ h.tail, ⟨h1, by omega⟩, ⟨by omega, by omega⟩, h.glide, h.few, fun t ht => ?_⟩
  obtain ⟨a1, a2, a3⟩ := h.touches t ht
  exact ⟨⟨by omega, by omega⟩, ⟨by omega, by omega⟩⟩
theorem touch_len {t : Int × Int} (h : tick t.1 ∧ tick t.2) : (touchS t).length ≤ 27 := by
  have h1 := h.1.len
  have h2 := h.2.len
  have h3 : ("-" : Str).length = 1 := by decide +kernel
  unfold touchS
  rw [Str.length_append, Str.length_append, h3]
  omega
theorem sum_le {B : Nat} : ∀ {l : List Str}, (∀ z ∈ l, z.length ≤ B) → (l.map (·.length)).sum ≤ B * l.length
  | [], _ => by simp
  | z :: l, h => by
    have ih := sum_le (l := l) fun y hy => h y (List.mem_cons_of_mem _ hy)
    have hz := h z List.mem_cons_self
    simp only [List.map_cons, List.sum_cons, List.length_cons, Nat.mul_succ]
    omega
theorem parts_len {p : Pass} (h : rowOk p) : ∀ z ∈ rowParts p, z.length ≤ 27 := by
  intro z hz
  unfold rowParts at hz
  rcases List.mem_append.mp hz with hz | hz
  · have h1 := h.first.len
    have h2 := h.last.len
    have h3 : (numS p.glide).length ≤ 13 := tick.len ⟨h.glide.1, by have := h.glide.2; omega⟩
    have h4 := h.name
    have h5 := h.mode
    have h6 := h.tail
    have h7 : ("pass" : Str).length ≤ 27 := by decide +kernel
    simp only [List.mem_cons, List.not_mem_nil, or_false] at hz
    rcases hz with rfl | rfl | rfl | rfl | rfl | rfl | rfl
    · exact h7
    all_goals omega
  · obtain ⟨t, ht, rfl⟩ := List.mem_map.mp hz
    exact touch_len (h.touches t ht)
theorem parts_few {p : Pass} (h : rowOk p) : (rowParts p).length ≤ 13 := by
  have := h.few
  unfold rowParts
  simp only [List.length_append, List.length_map, List.length_cons, List.length_nil]
  omega
theorem join_len (s : Str) (l : List Str) : (Txt.join s l).length ≤ (l.map (·.length)).sum + l.length * s.length := by
  have e : Txt.join s l = Str.join s l := StrLaws.glued_eq_join s l
  rw [e]
  exact StrLaws.join_length_le s l
theorem row_len {p : Pass} (h : rowOk p) : (rowS p).length ≤ 364 := by
  have h1 := join_len " " (rowParts p)
  have h2 := sum_le (parts_len h)
  have h3 := parts_few h
  have h4 : (" " : Str).length = 1 := by decide +kernel
  rw [h4] at h1
  unfold rowS
  omega
section
variable {P : Program} {w : World} {K : PySem.W.Frag} {mg : Str → Option Value} {base : Heap} {a : Ad} {f : Addr} {fd : FuncData}
def sp_row_of : SpD := fun ds G Q _ => ∃ p : Pass, ds = [p.d] ∧ rowOk p ∧ Q (.str (rowS p)) G
theorem ok_row_of (T : Txt K w mg a) (Fu : FunD K "row_of" "row_of" (defArgs s_row_of) (defBody s_row_of) (defScope s_row_of) [] [] f fd) : FnD P w K mg base 1 f fd ["one_pass"] sp_row_of := by
  refine fun_ok Fu sc_row_of ?_ (fun cdv A outer s H E hr => (dss_cons (ds_asg (dv 0) (dg_tup (n := 7) rfl (dgs_cons (dg_name (i := 2) sc_row_of.nd rfl (Or.inl rfl)) (dgs_cons (dg_name (i := 3) sc_row_of.nd rfl (Or.inl rfl)) (dgs_cons (dg_name (i := 4) sc_row_of.nd rfl (Or.inl rfl)) (dgs_cons (dg_name (i := 5) sc_row_of.nd rfl (Or.inl rfl)) (dgs_cons (dg_name (i := 6) sc_row_of.nd rfl (Or.inl rfl)) (dgs_cons (dg_name (i := 7) sc_row_of.nd rfl (Or.inl rfl)) (dgs_cons (dg_name (i := 8) sc_row_of.nd rfl (Or.inl rfl)) dgs_nil)))))))))
      (dss_cons (ds_setLc (i := 1) rfl sc_row_of.nd rfl (rfl) (sw_true rfl rfl rfl (by decide +kernel)) (BlkD.mk (own := [("touch", 9)]) (di_seq (dv 6)) (blkOk_by (N := N_row_of) (sc := defScope s_row_of) (own := [("touch", 9)]) (by decide +kernel)) (fun _ _ _ _ _ => (dgw_name (i := 9) sc_row_of.nd rfl (Or.inl rfl) (by decide))) (fun _ _ _ _ _ => dts_nil) (fun _ _ _ _ _ => (de_add (de_add (de_callTy str_okD T.str_ (by decide +kernel) (da_cons (de_ix (dv 9) de_int) da_nil)) de_str) (de_callTy str_okD T.str_ (by decide +kernel) (da_cons (de_ix (dv 9) de_int) da_nil))))))
      (dss_one (ds_ret (de_join de_str (da_cons (de_lst (da_cons de_str (da_cons (dv 2) (da_cons (dv 3) (da_cons (de_callTy str_okD T.str_ (by decide +kernel) (da_cons (dv 4) da_nil)) (da_cons (de_callTy str_okD T.str_ (by decide +kernel) (da_cons (dv 5) da_nil)) (da_cons (de_callTy str_okD T.str_ (by decide +kernel) (da_cons (dv 7) da_nil)) (da_cons (dv 8) (da_star (dv 1) da_nil))))))))) da_nil))))))) ?_
  · rintro ds G Q E ⟨p, rfl, _⟩; rfl
  · rintro ds G Q E ⟨p, rfl, hp, q⟩
    have l1 : ("-" : Str).length = 1 := by decide +kernel
    have g1 : tick p.glide := ⟨hp.glide.1, by have := hp.glide.2; omega⟩
    refine ⟨rfl, _, rfl, comp1 (fun x => match x with
      | .tup [.int x, .int y] => .str (touchS (x, y))
      | _ => .non) (fun x hx R r => ?_) ?_ ?_⟩
    · obtain ⟨t, ht, rfl⟩ := List.mem_map.mp hx
      have h := hp.touches t ht
      have k1 := h.1.len
      have k2 := h.2.len
      refine ⟨_, .int t.1, rfl, rfl, h.1.log, ?_, _, .int t.2, rfl, rfl, h.2.log, ?_, r⟩
      · rw [l1]
        exact Nat.le_trans (Nat.add_le_add_right k1 1) (by decide)
      · rw [Str.length_append, l1]
        exact Nat.le_trans (Nat.add_le_add (Nat.add_le_add_right k1 1) k2) (by decide)
    · rw [List.length_map]
      exact Nat.le_trans hp.few (by decide)
    · refine ⟨hp.first.log, hp.last.log, g1.log, ?_⟩
      have el : (p.touches.map pr).map (fun x => match x with
        | .tup [.int x, .int y] => D.str (touchS (x, y))
        | _ => .non) = (p.touches.map touchS).map D.str := by
        rw [List.map_map, List.map_map]
        rfl
      rw [el]
      refine ⟨?_, rowParts p, .inl ?_, ?_, ret q⟩
      · show (_ :: _ :: _ :: _ :: _ :: _ :: _ :: (List.map D.str _ ++ [])).length ≤ _
        have := hp.few
        simp only [List.length_cons, List.length_append, List.length_map, List.length_nil]
        exact Nat.le_trans (by omega : _ ≤ 20) (by decide)
      · show [D.lst (_ :: _ :: _ :: _ :: _ :: _ :: _ :: (List.map D.str _ ++ []))] = _
        rw [List.append_nil]
        rfl
      · have h2 := sum_le (parts_len hp)
        have h3 := parts_few hp
        have h4 : (" " : Str).length = 1 := by decide +kernel
        rw [h4]
        omega
def sp_Track_str : SpD := fun ds G Q _ => ∃ n ps, ds = [trackD a n ps] ∧ tick n ∧ ps.length ≤ 8 ∧ (∀ p ∈ ps, rowOk p) ∧ Q (.str (trackS n ps)) G
theorem head_len {n : Int} (h : tick n) : ("track " ++ numS n : Str).length ≤ 19 := by
  have := h.len
  have l1 : ("track " : Str).length = 6 := by decide +kernel
  rw [Str.length_append, l1]
  omega
theorem tparts_len {n : Int} {ps : List Pass} (hn : tick n) (h : ∀ p ∈ ps, rowOk p) : ∀ z ∈ trackParts n ps, z.length ≤ 364 := by
  intro z hz
  rcases List.mem_cons.mp hz with rfl | hz
  · exact Nat.le_trans (head_len hn) (by decide)
  · obtain ⟨p, hp, rfl⟩ := List.mem_map.mp hz
    exact row_len (h p hp)
theorem track_len {n : Int} {ps : List Pass} (hn : tick n) (h8 : ps.length ≤ 8) (h : ∀ p ∈ ps, rowOk p) : (trackS n ps).length ≤ 4000 := by
  have h1 := join_len "\n" (trackParts n ps)
  have h2 := sum_le (tparts_len hn h)
  have h4 : ("\n" : Str).length = 1 := by decide +kernel
  have h3 : (trackParts n ps).length ≤ 9 := by
    unfold trackParts
    simp only [List.length_cons, List.length_map]
    omega
  rw [h4] at h1
  unfold trackS
  omega
theorem ok_Track_str (T : Txt K w mg a) (k_row_of : Knows P w K mg base "row_of" 1 [] sp_row_of) (Fu : FunD K "__str__" "Track.__str__" (defArgs s_Track___str__) (defBody s_Track___str__) (defScope s_Track___str__) [] [] f fd) : FnD P w K mg base 2 f fd ["self"] (sp_Track_str (a := a)) := by
  refine fun_ok Fu sc_Track___str__ ?_ (fun cdv A outer s H E hr => (dss_one (ds_ret (de_join de_str (da_cons (de_lst (da_cons (de_add de_str (de_callTy str_okD T.str_ (by decide +kernel) (da_cons (de_fld T.clTrack T.nTrack_held_length (dv 0)) da_nil))) (da_star (de_lc rfl sc_Track___str__.nd (BlkD.mk (own := [("one_pass", 1)]) (di_seq (de_fld T.clTrack T.nTrack_held_passes (dv 0))) (blkOk_by (N := N_Track___str__) (sc := defScope s_Track___str__) (own := [("one_pass", 1)]) (by decide +kernel)) (fun _ _ _ _ _ => (dgw_name (i := 1) sc_Track___str__.nd rfl (Or.inl rfl) (by decide))) (fun _ _ _ _ _ => dts_nil) (fun _ _ _ _ _ => (de_call k_row_of (hr.mono (by decide)) takes0 (da_cons (dv 1) da_nil))))) da_nil))) da_nil))))) ?_
  · rintro ds G Q E ⟨n, ps, rfl, _⟩; rfl
  · rintro ds G Q E ⟨n, ps, rfl, hn, h8, hp, q⟩
    have l1 : ("track " : Str).length = 6 := by decide +kernel
    have k1 := hn.len
    refine ⟨_, .int n, rfl, rfl, hn.log, ?_, _, _, rfl, rfl, ?_⟩
    · rw [l1]
      exact Nat.le_trans (Nat.add_le_add_left k1 6) (by decide)
    have ex : ∀ x ∈ ps.map Pass.d, ∃ p ∈ ps, x = p.d := fun x hx => by
      obtain ⟨p, hp, rfl⟩ := List.mem_map.mp hx
      exact ⟨p, hp, rfl⟩
    refine ⟨_, rfl, comp1 (fun x => match x with
      | .tup [.str z, .str m, .int i, .int j, .tup ts, .int g, .str t] => .str (rowS ⟨z, m, i, j, ts.map (fun x => match x with
        | .tup [.int x, .int y] => (x, y)
        | _ => (0, 0)), g, t⟩)
      | _ => .non) (fun x hx R r => ?_) ?_ ?_⟩
    · obtain ⟨p, h, rfl⟩ := ex x hx
      refine ⟨p, rfl, hp p h, ?_⟩
      have e : (p.touches.map pr).map (fun x => match x with
        | .tup [.int x, .int y] => (x, y)
        | _ => (0, 0)) = p.touches := by
        rw [List.map_map]
        exact (List.map_congr_left fun _ _ => rfl).trans (List.map_id _)
      have r : R (.str (rowS ⟨p.name, p.mode, p.first, p.last, (p.touches.map pr).map (fun x => match x with
        | .tup [.int x, .int y] => (x, y)
        | _ => (0, 0)), p.glide, p.tail⟩)) G := r
      rw [e] at r
      exact r
    · rw [List.length_map]
      exact Nat.le_trans h8 (by decide)
    · have el : ∀ f : D → D, (∀ p ∈ ps, f p.d = .str (rowS p)) → (ps.map Pass.d).map f = (ps.map rowS).map D.str := fun f hf => by
        rw [List.map_map, List.map_map]
        exact List.map_congr_left hf
      have e := el (fun x => match x with
        | .tup [.str z, .str m, .int i, .int j, .tup ts, .int g, .str t] => .str (rowS ⟨z, m, i, j, ts.map (fun x => match x with
          | .tup [.int x, .int y] => (x, y)
          | _ => (0, 0)), g, t⟩)
        | _ => .non) fun p _ => by
          show D.str (rowS ⟨p.name, p.mode, p.first, p.last, (p.touches.map pr).map (fun x => match x with
            | .tup [.int x, .int y] => (x, y)
            | _ => (0, 0)), p.glide, p.tail⟩) = _
          have e : (p.touches.map pr).map (fun x => match x with
            | .tup [.int x, .int y] => (x, y)
            | _ => (0, 0)) = p.touches := by
            rw [List.map_map]
            exact (List.map_congr_left fun _ _ => rfl).trans (List.map_id _)
          rw [e]
      rw [e]
      have h3 : (trackParts n ps).length ≤ 9 := by
        unfold trackParts
        simp only [List.length_cons, List.length_map]
        omega
      refine ⟨?_, trackParts n ps, .inl ?_, ?_, ret q⟩
      · show (_ :: (List.map D.str _ ++ [])).length ≤ _
        simp only [List.length_cons, List.length_append, List.length_map, List.length_nil]
        exact Nat.le_trans (by omega : _ ≤ 20) (by decide)
      · show [D.lst (_ :: (List.map D.str _ ++ []))] = _
        rw [List.append_nil]
        rfl
      · have h2 := sum_le (tparts_len hn hp)
        have h4 : ("\n" : Str).length = 1 := by decide +kernel
        rw [h4]
        omega
/-! ### check_track -/
def sp_check_track : SpD := fun ds G Q E => ∃ d, ds = [d] ∧ ((∃ n ps, d = trackD a n ps) ∧ Q .non G ∨ typed d = true ∧ E (.ref a.NotATrack) [("given", d)] G)
theorem ok_check_track (T : Txt K w mg a) (hK : PySem.W.kitOne K (.ref a.Track) (.ref a.Track) = some true) (k_NotATrack : KnowsX1 P w K mg base "NotATrack" a.NotATrack "given") (Fu : FunD K "check_track" "check_track" (defArgs s_check_track) (defBody s_check_track) (defScope s_check_track) [] [] f fd) :
    FnD P w K mg base 3 f fd ["value"] (sp_check_track (a := a)) := by
  refine fun_ok Fu sc_check_track ?_ (fun cdv A outer s H E hr => (dss_one (ds_if (dt_not (dt_val (de_isiC (K := K) T.isinstance T.gTrack T.ki0Track (dv 0)))) (dss_one (ds_raise1 k_NotATrack (hr.mono (by decide)) tk0 (da_cons (dv 0) da_nil))) dss_nil))) ?_
  · rintro ds G Q E ⟨d, rfl, _⟩; rfl
  · rintro ds G Q E ⟨d, rfl, ⟨⟨n, ps, rfl⟩, q⟩ | ⟨hd, q⟩⟩
    · exact .inr ⟨_, _, true, rfl, T.kiTrack, hK, ite_ff (ret q)⟩
    · obtain ⟨m, hm, _⟩ := typed_name (G := G) hd
      exact .inl ⟨m, hm, ite_tt ⟨G, .refl G, q⟩⟩
end
end TP
end
section
set_option maxRecDepth 100000
set_option maxHeartbeats 1000000
/-! tracks.py: changes. -/
namespace TP
open PySem PySem.Spec PyProof.Rows DL
open L2 hiding Room FnOk takes0
theorem ixN_n {n j : Nat} (hj : j < n) : ixN n (j : Int) = some j := by
  unfold ixN
  rw [if_pos (by omega), if_pos (by omega), Int.toNat_natCast]
def partsS : List Str := ["mode", "from", "to", "touches", "glide", "tail"]
/-- where a part stands in a pass -/
def partNo (z : Str) : Nat := partsS.idxOf z + 1
structure Chg where
  name : Str
  part : Str
  value : D
abbrev Chg.d (c : Chg) : D := .tup [.str c.name, .str c.part, c.value]
abbrev rowD (p : Pass) : List D := [.str p.name, .str p.mode, .int p.first, .int p.last, .tup (p.touches.map pr), .int p.glide, .str p.tail]
def isChangeD (d : D) (ps : List Pass) : Bool := match d with
  | .tup [x, y, _] => hasName x ps && isWordD y partsS
  | _ => false
def chgAsk (d : D) : Prop := typed d = true ∧ match d with
  | .tup [x, y, _] => typed x = true ∧ typed y = true
  | _ => True
theorem three_of {d : D} (h : isTupleOfD d 3 = true) : ∃ x y z, d = .tup [x, y, z] := by
  cases d with
  | tup xs =>
    have h : (xs.length : Int) = 3 := of_decide_eq_true h
    match xs, h with
    | [x, y, z], _ => exact ⟨x, y, z, rfl⟩
    | [], h => simp at h
    | [_], h => simp at h
    | [_, _], h => simp at h
    | _ :: _ :: _ :: _ :: _, h => simp at h; omega
  | _ => exact absurd h Bool.false_ne_true
theorem not_change {d : D} {ps : List Pass} (h : ¬ isTupleOfD d 3 = true) : isChangeD d ps = false := by
  unfold isChangeD
  split
  · exact absurd rfl h
  · rfl
/-! ### rows that are changed -/
structure Rows (G G' : GD) (rs : List Addr) (rows : List (List D)) : Prop where
  at_ : rs.map G' = rows.map fun r => some (HOD.lst r)
  nd : rs.Nodup
  fresh : ∀ r ∈ rs, G r = none
  ext : Less G G'
theorem Rows.nil (G : GD) : Rows G G [] [] := ⟨rfl, .nil, fun _ h => (List.not_mem_nil h).elim, .refl G⟩
theorem Rows.len {G G' : GD} {rs : List Addr} {rows : List (List D)} (R : Rows G G' rs rows) : rs.length = rows.length := by simpa using congrArg List.length R.at_
theorem Rows.get {G G' : GD} {rs : List Addr} {rows : List (List D)} (R : Rows G G' rs rows) {i : Nat} {r : Addr} (h : rs[i]? = some r) : ∃ row, rows[i]? = some row ∧ G' r = some (.lst row) := by
  have e := congrArg (fun l => l[i]?) R.at_
  simp only [List.getElem?_map, h, Option.map_some] at e
  cases hr : rows[i]? with
  | none => rw [hr] at e; cases e
  | some row => rw [hr] at e; exact ⟨row, rfl, Option.some.inj e⟩
theorem Rows.cons {G G' : GD} {q : Addr} {row : List D} {rs : List Addr} {rows : List (List D)} (hq : G q = none) (R : Rows (put G q (.lst row)) G' rs rows) : Rows G G' (q :: rs) (row :: rows) := by
  have hn : q ∉ rs := fun h => by have := R.fresh q h; rw [put_same] at this; cases this
  refine ⟨?_, List.nodup_cons.mpr ⟨hn, R.nd⟩, fun r hr => ?_, (Less.put hq).trans R.ext⟩
  · rw [List.map_cons, List.map_cons, R.at_, R.ext q _ put_same]
  · rcases List.mem_cons.mp hr with rfl | hr
    · exact hq
    · have := R.fresh r hr
      have ne : r ≠ q := fun e => hn (by rw [← e]; exact hr)
      rwa [put_ne ne] at this
theorem Rows.beside {G G' : GD} {p : Addr} {o : HOD} {rs : List Addr} {rows : List (List D)} (R : Rows G G' rs rows) (hp : G' p = none) : Rows G (put G' p o) rs rows := by
  refine ⟨?_, R.nd, R.fresh, R.ext.trans (Less.put hp)⟩
  rw [← R.at_]
  refine List.map_congr_left fun r hr => put_ne fun e => ?_
  obtain ⟨i, hi⟩ := List.mem_iff_getElem?.mp hr
  obtain ⟨row, _, h⟩ := R.get hi
  rw [e, hp] at h
  cases h
theorem map_put {G : GD} {o : HOD} : ∀ {rs : List Addr} {i : Nat} {r : Addr}, rs.Nodup → rs[i]? = some r → rs.map (put G r o) = (rs.map G).set i (some o)
  | [], _, _, _, h => by simp at h
  | q :: rs, 0, r, nd, h => by
    cases (show q = r by simpa using h)
    have e : rs.map (put G q o) = rs.map G := List.map_congr_left fun x hx => by
      have ne : x ≠ q := fun e => (List.nodup_cons.mp nd).1 (by rw [← e]; exact hx)
      exact put_ne ne
    rw [List.map_cons, List.map_cons, put_same, List.set_cons_zero, e]
  | q :: rs, i + 1, r, nd, h => by
    have h : rs[i]? = some r := by simpa using h
    have ne : q ≠ r := fun e => (List.nodup_cons.mp nd).1 (by rw [e]; exact List.mem_of_getElem? h)
    rw [List.map_cons, List.map_cons, List.set_cons_succ, map_put (List.nodup_cons.mp nd).2 h, put_ne ne]
theorem Rows.write {G G' : GD} {i : Nat} {r : Addr} {row : List D} {rs : List Addr} {rows : List (List D)} (R : Rows G G' rs rows) (h : rs[i]? = some r) : Rows G (put G' r (.lst row)) rs (rows.set i row) := by
  refine ⟨?_, R.nd, R.fresh, fun b o hb => ?_⟩
  · rw [map_put R.nd h, R.at_, List.map_set]
  · have e : b ≠ r := fun e => by rw [e, R.fresh r (List.mem_of_getElem? h)] at hb; cases hb
    rw [put_ne e]
    exact R.ext b o hb
/-- lists made anew -/
theorem compD_rows {te : TDE} {s : SD} {i : Nat} : ∀ {ps : List Pass} {acc : List D} {G : GD} {Q : List D → GD → Prop}, (∀ p ∈ ps, ∀ (G : GD) (R : KD), (∀ q, G q = none → R (.ref q) (put G q (.lst (rowD p)))) → te ((wipeD s [i]).set i (some p.d)) G R noX) →
    acc.length + ps.length ≤ sizeLine → (∀ rs G', Rows G G' rs (ps.map rowD) → Q (acc ++ rs.map D.ref) G') → compD (gNm i) dYes te [i] s (ps.map Pass.d) acc G Q
  | [], acc, G, Q, _, _, q => by
    have := q [] G (.nil G)
    simpa [compD] using this
  | p :: ps, acc, G, Q, h, hl, q => by
    rw [List.length_cons] at hl
    have z := h p List.mem_cons_self G (fun z G4 => acc.length < sizeLine ∧ compD (gNm i) dYes te [i] s (ps.map Pass.d) (acc ++ [z]) G4 Q) fun a ha => ⟨by omega, compD_rows (fun p hp => h p (List.mem_cons_of_mem _ hp)) (by simp; omega) fun rs G' R => by
      have := q (a :: rs) G' (.cons ha R)
      simpa using this⟩
    show (if true = true then te _ G _ noX else compD (gNm i) dYes te [i] s (ps.map Pass.d) acc G Q)
    exact ite_tt z
def chgRow (ns : List Str) (rows : List (List D)) (c : Chg) : List (List D) := rows.set (ns.idxOf c.name) ((rows.getD (ns.idxOf c.name) []).set (partNo c.part) c.value)
def chgRows (ns : List Str) (rows : List (List D)) (cs : List Chg) : List (List D) := cs.foldl (chgRow ns) rows
theorem chgRow_len (ns : List Str) (rows : List (List D)) (c : Chg) : (chgRow ns rows c).length = rows.length := List.length_set
theorem chgRow_seven {ns : List Str} {rows : List (List D)} {c : Chg} (h : ∀ r ∈ rows, r.length = 7) : ∀ r ∈ chgRow ns rows c, r.length = 7 := by
  intro r hr
  unfold chgRow at hr
  rcases List.mem_or_eq_of_mem_set hr with hr | rfl
  · exact h r hr
  · by_cases hi : ns.idxOf c.name < rows.length
    · rw [List.length_set, List.getD_eq_getElem?_getD, List.getElem?_eq_getElem hi]
      exact h _ (List.getElem_mem hi)
    · rw [List.set_eq_of_length_le (by omega)] at hr
      exact h _ hr
theorem chgRows_snoc (ns : List Str) (rows : List (List D)) (cs : List Chg) (c : Chg) : chgRows ns rows (cs ++ [c]) = chgRow ns (chgRows ns rows cs) c := by
  unfold chgRows
  rw [List.foldl_append]
  rfl
theorem chgRows_len (ns : List Str) : ∀ (cs : List Chg) (rows : List (List D)), (chgRows ns rows cs).length = rows.length
  | [], rows => rfl
  | c :: cs, rows => (chgRows_len ns cs _).trans (chgRow_len ns rows c)
theorem chgRows_seven (ns : List Str) : ∀ (cs : List Chg) (rows : List (List D)), (∀ r ∈ rows, r.length = 7) → ∀ r ∈ chgRows ns rows cs, r.length = 7
  | [], _, h => h
  | c :: cs, rows, h => chgRows_seven ns cs _ (chgRow_seven h)
/-- what a list by its address is as a tuple -/
def frozeD (G : GD) : D → D
  | .ref r => (match G r with
    | some (.lst xs) => .tup xs
    | _ => .non)
  | _ => .non
theorem froze_rows {G G' : GD} {rs : List Addr} {rows : List (List D)} (R : Rows G G' rs rows) : (rs.map D.ref).map (frozeD G') = rows.map D.tup := by
  rw [List.map_map]
  have e : rs.map ((frozeD G') ∘ D.ref) = (rs.map G').map fun o => match o with
    | some (.lst xs) => D.tup xs
    | _ => .non := by
    rw [List.map_map]
    rfl
  rw [e, R.at_, List.map_map]
  rfl
theorem part_mem {z : Str} (h : z ∈ partsS) : (z, (partNo z : Int)) ∈ ([("mode", 1), ("from", 2), ("to", 3), ("touches", 4), ("glide", 5), ("tail", 6)] : List (Str × Int)) ∧ partNo z < 7 := by
  have key : ∀ z ∈ partsS, (z, (partNo z : Int)) ∈ ([("mode", 1), ("from", 2), ("to", 3), ("touches", 4), ("glide", 5), ("tail", 6)] : List (Str × Int)) ∧ partNo z < 7 := by decide +kernel
  exact key z h
section
variable {P : Program} {w : World} {K : PySem.W.Frag} {mg : Str → Option Value} {base : Heap} {a : Ad} {f : Addr} {fd : FuncData}
def sp_is_change : SpD := fun ds G Q _ => ∃ n ps d, ds = [trackD a n ps, d] ∧ ps.length ≤ sizeLine ∧ chgAsk d ∧ Q (.bl (isChangeD d ps)) G
theorem ok_is_change (T : Txt K w mg a) (k_is_tuple_of : Knows P w K mg base "is_tuple_of" 1 [] sp_is_tuple_of) (k_Track___contains__ : KnowsS P w K mg base a.Track "__contains__" 3 (sp_Track_contains (a := a))) (k_is_word : Knows P w K mg base "is_word" 1 [] sp_is_word)
    (Fu : FunD K "is_change" "is_change" (defArgs s_is_change) (defBody s_is_change) (defScope s_is_change) [] [] f fd) : FnD P w K mg base 5 f fd ["track", "value"] (sp_is_change (a := a)) := by
  refine fun_ok Fu sc_is_change ?_ (fun cdv A outer s H E hr => (dss_one (ds_ret (de_and (de_call k_is_tuple_of (hr.mono (by decide)) tk0 (da_cons (dv 1) (da_cons de_int da_nil))) (de_and (de_cmp (ownIn_ok k_Track___contains__ (hr.mono (by decide))) (de_ix (dv 1) de_int) (dv 0) (by rfl)) (de_one (de_call k_is_word (hr.mono (by decide)) tk0 (da_cons (de_ix (dv 1) de_int) (da_cons (de_klist T.list_ T.dPARTS) da_nil))))))))) ?_
  · rintro ds G Q E ⟨n, ps, d, rfl, _⟩; rfl
  · rintro ds G Q E ⟨n, ps, d, rfl, hz, hd, q⟩
    refine ⟨d, 3, rfl, hd.1, ?_⟩
    by_cases hl : isTupleOfD d 3 = true
    · obtain ⟨x, y, z, rfl⟩ := three_of hl
      obtain ⟨_, tx, ty⟩ := hd
      rw [hl]
      have e : ∀ b, isChangeD (.tup [x, y, z]) ps = b → Q (.bl b) G := fun b e => e ▸ q
      refine ite_tt ⟨_, x, rfl, rfl, _, rfl, n, ps, x, rfl, hz, tx, _, rfl, ?_⟩
      show (if hasName x ps = true then _ else _)
      refine ite2 (fun c => ⟨_, y, rfl, rfl, y, _, partsS, rfl, ty, (fun _ h => by cases h), rfl, ret (e _ ?_)⟩) (fun c => ret (e _ ?_))
      · show (hasName x ps && isWordD y partsS) = _
        rw [c, Bool.true_and]
      · show (hasName x ps && isWordD y partsS) = false
        have c : hasName x ps = false := by simpa using c
        rw [c, Bool.false_and]
    · rw [not_change hl] at q
      have e : isTupleOfD d 3 = false := by simpa using hl
      rw [e]
      exact ite_ff (ret q)
def sp_with_changes : SpD := fun ds G Q _ => ∃ n ps cs qs, ds = [trackD a n ps, .lst (cs.map Chg.d)] ∧ TrackOk n ps ∧ (∀ c ∈ cs, c.name ∈ ps.map (·.name) ∧ c.part ∈ partsS) ∧ chgRows (ps.map (·.name)) (ps.map rowD) cs = qs.map rowD ∧ TrackOk n qs ∧ Q (trackD a n qs) G
theorem ok_with_changes (T : Txt K w mg a) (k_Track_passes : KnowsP P w K mg base a.Track "passes" 1 (sp_Track_passes (a := a))) (k_Track_names : KnowsP P w K mg base a.Track "names" 1 (sp_Track_namesN (a := a))) (k_Track_length : KnowsP P w K mg base a.Track "length" 1 (sp_Track_length (a := a))) (k_Track2 : KnowsC P w K mg base a.Track 5 [] (sp_Track_init (a := a)))
    (Fu : FunD K "with_changes" "with_changes" (defArgs s_with_changes) (defBody s_with_changes) (defScope s_with_changes) [] [] f fd) : FnD P w K mg base 7 f fd ["track", "changes"] (sp_with_changes (a := a)) := by
  refine fun_ok Fu sc_with_changes ?_ (fun cdv A outer s H E hr => (dss_cons (ds_setLc (i := 2) rfl sc_with_changes.nd rfl (rfl) (sw_true rfl rfl rfl (by decide +kernel)) (BlkD.mk (own := [("one_pass", 6)]) (di_seq (de_prop T.clTrack k_Track_passes (hr.mono (by decide)) (dv 0))) (blkOk_by (N := N_with_changes) (sc := defScope s_with_changes) (own := [("one_pass", 6)]) (by decide +kernel)) (fun _ _ _ _ _ => (dgw_name (i := 6) sc_with_changes.nd rfl (Or.inl rfl) (by decide))) (fun _ _ _ _ _ => dts_nil) (fun _ _ _ _ _ => (de_callTy listM_okD T.list_ (by decide +kernel) (da_cons (dv 6) da_nil)))))
      (dss_cons (ds_for po0 rfl (di_seq (dv 1)) (dg_tup (n := 3) rfl (dgs_cons (dg_name (i := 3) sc_with_changes.nd rfl (Or.inl rfl)) (dgs_cons (dg_name (i := 4) sc_with_changes.nd rfl (Or.inl rfl)) (dgs_cons (dg_name (i := 5) sc_with_changes.nd rfl (Or.inl rfl)) dgs_nil)))) (dss_one (ds_asg (dv 5) (dg_sub (de_ix (dv 2) (de_index (de_prop T.clTrack k_Track_names (hr.mono (by decide)) (dv 0)) (da_cons (dv 3) da_nil))) (de_kget T.dPARTS (dv 4))))))
      (dss_one (ds_ret (de_make (K := K) k_Track2 T.gTrack (hr.mono (by decide)) tk0 (da_cons (de_prop T.clTrack k_Track_length (hr.mono (by decide)) (dv 0)) (da_cons (de_callTy tuple_okD T.tuple_ (by decide +kernel) (da_cons (de_lc rfl sc_with_changes.nd (BlkD.mk (own := [("row", 7)]) (di_seq (dv 2)) (blkOk_by (N := N_with_changes) (sc := defScope s_with_changes) (own := [("row", 7)]) (by decide +kernel)) (fun _ _ _ _ _ => (dgw_name (i := 7) sc_with_changes.nd rfl (Or.inl rfl) (by decide))) (fun _ _ _ _ _ => dts_nil) (fun _ _ _ _ _ => (de_callTy tuple_okD T.tuple_ (by decide +kernel) (da_cons (dv 7) da_nil))))) da_nil)) da_nil)))))))) ?_
  · rintro ds G Q E ⟨n, ps, cs, qs, rfl, _⟩; rfl
  · rintro ds G Q E ⟨n, ps, cs, qs, rfl, ht, hcs, hqs, htq, q⟩
    refine ⟨_, rfl, n, ps, rfl, _, rfl, compD_rows (fun p hp G R r => ⟨_, rfl, r⟩) ?_ fun rs G1 R0 => ?_⟩
    · exact Nat.le_trans (by rw [List.length_nil, Nat.zero_add]; exact ht.few) (by decide)
    refine ⟨_, rfl, loop_inv (fun rest s G' => ∃ done left o3 o4 o5, cs = done ++ left ∧ rest = left.map Chg.d ∧ s = [some (trackD a n ps), some (.lst (cs.map Chg.d)), some (.lst (rs.map D.ref)), o3, o4, o5, none, none] ∧ Rows G G' rs (chgRows (ps.map (·.name)) (ps.map rowD) done)) ?_ ?_ ⟨[], cs, none, none, none, rfl, rfl, rfl, R0⟩⟩
    · rintro d ds s G' ⟨done, left, o3, o4, o5, hc, hr, rfl, R⟩ R1 hR
      cases left with
      | nil => cases hr
      | cons c left =>
        cases hr
        have hm := hcs c (by rw [hc]; simp)
        obtain ⟨i1, i2⟩ := idx_at hm.1
        have sev := chgRows_seven (ps.map (·.name)) done (ps.map rowD) fun r hr => by
          obtain ⟨p, _, rfl⟩ := List.mem_map.mp hr
          rfl
        have hlen : rs.length = ps.length := by
          rw [R.len, chgRows_len, List.length_map]
        have hi : (ps.map (·.name)).idxOf c.name < rs.length := by
          rw [hlen]
          have := (List.getElem?_eq_some_iff.mp i1).1
          simpa using this
        refine ⟨rfl, _, rfl, n, ps, rfl, Nat.le_trans ht.few (by decide), fun p hp => ?_⟩
        have R2 := R.beside (o := .tup ((ps.map (·.name)).map D.str)) hp
        obtain ⟨row, hrow, hat⟩ := R2.get (List.getElem?_eq_getElem hi)
        have h7 : row.length = 7 := sev row (List.mem_of_getElem? hrow)
        obtain ⟨pm, p7⟩ := part_mem hm.2
        refine ⟨p, ps.map (·.name), rfl, put_same, c.name, _, rfl, put_same, i1, i2, _, .ref rs[(ps.map (·.name)).idxOf c.name], rfl, atI_nat (by rw [List.getElem?_map, List.getElem?_eq_getElem hi]; rfl), c.part, _, rfl, pm, _, row, _, partNo c.part, rfl, rfl, hat, ?_, hR _ _ ⟨done ++ [c], left, _, _, _, by rw [hc]; simp, rfl, rfl, ?_⟩⟩
        · rw [h7]
          exact ixN_n p7
        · rw [chgRows_snoc]
          have e : chgRow (ps.map (·.name)) (chgRows (ps.map (·.name)) (ps.map rowD) done) c = (chgRows (ps.map (·.name)) (ps.map rowD) done).set ((ps.map (·.name)).idxOf c.name) (row.set (partNo c.part) c.value) := by
            unfold chgRow
            rw [List.getD_eq_getElem?_getD, hrow]
            rfl
          rw [e]
          exact R2.write (List.getElem?_eq_getElem hi)
    · rintro s G' ⟨done, left, o3, o4, o5, hc, hr, rfl, R⟩
      have hl : left = [] := by cases left with
        | nil => rfl
        | cons => cases hr
      subst hl
      have hd : done = cs := by rw [hc]; simp
      subst hd
      refine ⟨_, rfl, n, ps, rfl, _, rfl, comp1 (frozeD G') (fun x hx R1 r => ?_) ?_ ⟨_, rfl, fun x hx => ⟨x, n, qs, ?_, put_same, htq.lo, htq.hi, htq.few, htq.ask, htq.ok, rfl, ret_made hx (retL R.ext q)⟩⟩⟩
      · obtain ⟨b, hb, rfl⟩ := List.mem_map.mp hx
        obtain ⟨i, hi⟩ := List.mem_iff_getElem?.mp hb
        obtain ⟨row, _, hat⟩ := R.get hi
        refine ⟨row, ?_, ?_⟩
        · show (match G' b with
            | some (.lst xs) => some xs
            | _ => none) = some row
          rw [hat]
        · have e : frozeD G' (.ref b) = .tup row := by
            show (match G' b with
              | some (.lst xs) => D.tup xs
              | _ => .non) = _
            rw [hat]
          rw [e] at r
          exact r
      · rw [List.length_map, R.len, chgRows_len, List.length_map]
        exact Nat.le_trans ht.few (by decide)
      · rw [froze_rows R, hqs, List.map_map]
        rfl
def sp_Track_changed : SpD := fun ds G Q E => ∃ n ps d, ds = [trackD a n ps, d] ∧ TrackOk n ps ∧ chgAsk d ∧ (isChangeD d ps = false → E (.ref a.InvalidChange) [("given", d)] G) ∧
  (isChangeD d ps = true → ∃ c qs, d = Chg.d c ∧ chgRow (ps.map (·.name)) (ps.map rowD) c = qs.map rowD ∧ TrackOk n qs ∧ Q (trackD a n qs) G)
theorem ok_Track_changed (T : Txt K w mg a) (k_is_change : Knows P w K mg base "is_change" 5 [] (sp_is_change (a := a))) (k_with_changes : Knows P w K mg base "with_changes" 7 [] (sp_with_changes (a := a))) (k_InvalidChange : KnowsX1 P w K mg base "InvalidChange" a.InvalidChange "given")
    (Fu : FunD K "changed" "Track.changed" (defArgs s_Track_changed) (defBody s_Track_changed) (defScope s_Track_changed) [] [] f fd) : FnD P w K mg base 9 f fd ["self", "change"] (sp_Track_changed (a := a)) := by
  refine fun_ok Fu sc_Track_changed ?_ (fun cdv A outer s H E hr => (dss_cons (ds_if (dt_not (dt_val (de_call k_is_change (hr.mono (by decide)) tk0 (da_cons (dv 0) (da_cons (dv 1) da_nil))))) (dss_one (ds_raise1 k_InvalidChange (hr.mono (by decide)) tk0 (da_cons (dv 1) da_nil))) dss_nil)
      (dss_cons (ds_tryNo (dss_one (ds_set (i := 2) sc_Track_changed.nd rfl (Or.inl rfl) (de_call k_with_changes (hr.mono (by decide)) takes0 (da_cons (dv 0) (da_cons (de_lst (da_cons (dv 1) da_nil)) da_nil))))))
      (dss_one (ds_ret (dv 2)))))) ?_
  · rintro ds G Q E ⟨n, ps, d, rfl, _⟩; rfl
  · rintro ds G Q E ⟨n, ps, d, rfl, ht, hd, q1, q2⟩
    refine ⟨n, ps, d, rfl, Nat.le_trans ht.few (by decide), hd, ?_⟩
    cases hc : isChangeD d ps with
    | false => exact ite_tt ⟨G, .refl G, q1 hc⟩
    | true =>
      obtain ⟨c, qs, rfl, e, hq, q⟩ := q2 hc
      have hm : hasName (.str c.name) ps = true ∧ isWordD (.str c.part) partsS = true := by
        have : (hasName (.str c.name) ps && isWordD (.str c.part) partsS) = true := hc
        simpa using this
      refine ite_ff ⟨by show 1 ≤ sizeLine; decide, n, ps, [c], qs, rfl, ht, fun c' hc' => ?_, e, hq, ret q⟩
      obtain rfl : c' = c := by simpa using hc'
      exact ⟨by simpa [hasName, isWordD] using hm.1, by simpa [isWordD] using hm.2⟩
/-! ### moved -/
def moveTo (ps : List Pass) (j k : Nat) : List Pass := match ps[j]? with
  | some p => putAt (without ps j) k p
  | none => ps
def sp_Track_moved : SpD := fun ds G Q E => ∃ n ps d pl, ds = [trackD a n ps, d, pl] ∧ TrackOk n ps ∧ typed d = true ∧ typed pl = true ∧ (hasName d ps = false → E (.ref a.UnknownName) [("given", d)] G) ∧
  ∀ z, d = .str z → z ∈ ps.map (·.name) → (isIntegerD pl 0 ((ps.length : Int) - 1) = false → E (.ref a.InvalidPlace) [("given", pl)] G) ∧ ∀ i : Nat, pl = .int i → i < ps.length → Q (trackD a n (moveTo ps ((ps.map (·.name)).idxOf z) i)) G
theorem without_len {ps : List Pass} {j : Nat} (h : j < ps.length) : (without ps j).length = ps.length - 1 := by
  unfold without
  simp only [List.length_append, List.length_take, List.length_drop]
  omega
theorem without_perm {ps : List Pass} {j : Nat} {p : Pass} (h : ps[j]? = some p) : (p :: without ps j).Perm ps := by
  obtain ⟨hj, e⟩ := List.getElem?_eq_some_iff.mp h
  have e2 : ps = ps.take j ++ p :: ps.drop (j + 1) := by
    rw [← e, List.getElem_cons_drop, List.take_append_drop]
  conv => rhs; rw [e2]
  exact List.perm_middle.symm
theorem ok_Track_moved (T : Txt K w mg a) (k_index_of : Knows P w K mg base "index_of" 5 [] (sp_index_of (a := a))) (k_is_integer : Knows P w K mg base "is_integer" 2 [] sp_is_integer) (k_InvalidPlace : KnowsX1 P w K mg base "InvalidPlace" a.InvalidPlace "given")
    (k_Track_without : KnowsM P w K mg base a.Track "without" 7 [] (sp_Track_without (a := a))) (k_Track_put2 : KnowsM P w K mg base a.Track "put" 7 [] (sp_Track_put (a := a)))
    (Fu : FunD K "moved" "Track.moved" (defArgs s_Track_moved) (defBody s_Track_moved) (defScope s_Track_moved) [] [] f fd) : FnD P w K mg base 9 f fd ["self", "name", "place"] (sp_Track_moved (a := a)) := by
  refine fun_ok Fu sc_Track_moved ?_ (fun cdv A outer s H E hr => (dss_cons (ds_set (i := 3) sc_Track_moved.nd rfl (Or.inl rfl) (de_call k_index_of (hr.mono (by decide)) tk0 (da_cons (dv 0) (da_cons (dv 1) da_nil))))
      (dss_cons (ds_if (dt_not (dt_val (de_call k_is_integer (hr.mono (by decide)) tk0 (da_cons (dv 2) (da_cons de_int (da_cons (de_sub (de_callB len_okD T.len (by decide +kernel) (da_cons (de_fld T.clTrack T.nTrack_held_passes (dv 0)) da_nil)) de_int) da_nil)))))) (dss_one (ds_raise1 k_InvalidPlace (hr.mono (by decide)) tk0 (da_cons (dv 2) da_nil))) dss_nil)
      (dss_one (ds_ret (de_meth T.clTrack k_Track_put2 (hr.mono (by decide)) tk0 (de_meth T.clTrack k_Track_without (hr.mono (by decide)) tk0 (dv 0) (da_cons (dv 1) da_nil)) (da_cons (de_ix (de_fld T.clTrack T.nTrack_held_passes (dv 0)) (dv 3)) (da_cons (dv 2) da_nil)))))))) ?_
  · rintro ds G Q E ⟨n, ps, d, pl, rfl, _⟩; rfl
  · rintro ds G Q E ⟨n, ps, d, pl, rfl, ht, hd, hpl, q1, q2⟩
    refine ⟨n, ps, d, rfl, Nat.le_trans ht.few (by decide), hd, fun h => ⟨G, .refl G, q1 h⟩, fun z hz hm => ?_⟩
    subst hz
    obtain ⟨q3, q4⟩ := q2 z rfl hm
    obtain ⟨i1, i2⟩ := idx_at hm
    have hj : (ps.map (·.name)).idxOf z < ps.length := by
      have := (List.getElem?_eq_some_iff.mp i1).1
      simpa using this
    refine ⟨_, _, rfl, rfl, _, rfl, pl, 0, _, rfl, hpl, ?_⟩
    rw [List.length_map]
    cases hi : isIntegerD pl 0 ((ps.length : Int) - 1) with
    | false => exact ite_tt ⟨G, .refl G, q3 hi⟩
    | true =>
      obtain ⟨i, rfl⟩ := integer_of hi
      have hi : 0 ≤ i ∧ i ≤ (ps.length : Int) - 1 := of_decide_eq_true hi
      obtain ⟨k, rfl⟩ := Int.eq_ofNat_of_zero_le hi.1
      have q := q4 k rfl (by omega)
      have hp := List.getElem?_eq_getElem hj
      have pm := without_perm hp
      have h8 := ht.few
      have hw := ht.sub (without_sub ps ((ps.map (·.name)).idxOf z))
      have hl := without_len hj
      have hmem : ps[(ps.map (·.name)).idxOf z] ∈ ps := List.getElem_mem hj
      have hpass : isPassD ps[(ps.map (·.name)).idxOf z].d n ((without ps ((ps.map (·.name)).idxOf z)).map (·.name)) = true := by
        rw [right_iff, ht.right _ hmem, Bool.true_and]
        have nd := ((pm.map (·.name)).nodup_iff.mpr ht.nd)
        rw [List.map_cons, List.nodup_cons] at nd
        simp [nd.1]
      refine ite_ff ⟨_, rfl, rfl, n, ps, .str z, rfl, ht, rfl, fun h => ?_, fun z2 hz2 hm2 => ?_⟩
      · exact absurd (decide_eq_true hm) (by
          have h : decide (z ∈ ps.map (·.name)) = false := h
          rw [h]
          exact Bool.false_ne_true)
      · cases hz2
        refine ⟨_, rfl, rfl, _, _, rfl, rfl, _, ps[(ps.map (·.name)).idxOf z].d, rfl, atI_nat (by rw [List.getElem?_map, hp]; rfl), n, _, ps[(ps.map (·.name)).idxOf z].d, .int (k : Int), rfl, hw, ht.ask _ hmem, fun h => ?_, fun _ => ⟨by omega, .inr ⟨k, rfl, by omega, by omega⟩, fun p hpd => ret ?_⟩⟩
        · rw [hpass] at h; cases h
        · have e : p = ps[(ps.map (·.name)).idxOf z] := by
            have inj : ∀ {xs ys : List (Int × Int)}, xs.map pr = ys.map pr → xs = ys := by
              intro xs
              induction xs with
              | nil => intro ys h; cases ys with
                | nil => rfl
                | cons => cases h
              | cons x xs ih => intro ys h; cases ys with
                | nil => cases h
                | cons y ys =>
                  rw [List.map_cons, List.map_cons] at h
                  injection h with h1 h2
                  rw [ih h2]
                  cases x; cases y; cases h1; rfl
            generalize ps[(ps.map (·.name)).idxOf z] = p2 at hpd
            cases p; cases p2
            simp only [Pass.d, D.tup.injEq, List.cons.injEq, D.str.injEq, D.int.injEq, and_true] at hpd
            obtain ⟨e1, e2, e3, e4, e5, e6, e7⟩ := hpd
            rw [e1, e2, e3, e4, inj e5, e6, e7]
          have em : moveTo ps ((ps.map (·.name)).idxOf z) k = putAt (without ps ((ps.map (·.name)).idxOf z)) k p := by
            unfold moveTo
            rw [hp, e]
          rw [em] at q
          exact q
end
end TP
end
section
set_option maxRecDepth 100000
set_option maxHeartbeats 1000000
/-! forms.py in plain Lean: terms, parts, zones; what holds of them. -/
namespace TP
open PySem PySem.Spec PyProof.Rows DL
open L2 hiding Room FnOk takes0
structure Term where
  place : Option Int
  weight : Int × Int
abbrev Terms := List (Str × Term)
structure Piece where
  first : Int
  last : Int
  terms : Terms
instance : Inhabited Piece := ⟨⟨0, 0, []⟩⟩
structure Zone where
  first : Int
  last : Int
  word : Str
  place : Option Int
  weight : Int × Int
def one : Int × Int := (1, 1)
def cutM (p : Piece) (f e : Int) : Piece := ⟨max p.first f, min p.last e, p.terms⟩
def atM (p : Piece) (t : Int) : Terms := p.terms.map fun x => (x.1, ⟨some (x.2.place.getD t), x.2.weight⟩)
def minusM (p q : Int × Int) : Int × Int := lows (p.1 * q.2 - q.1 * p.2) (p.2 * q.2)
def timesM (p q : Int × Int) : Int × Int := lows (p.1 * q.1) (p.2 * q.2)
def glideZ (p : Pass) (tick step : Int) : Zone := ⟨tick + step, tick + step + 1, p.mode, some tick, lows (p.glide + 1 - step) (p.glide + 1)⟩
def glideFrom (p : Pass) (tick e : Int) : Int → Nat → List Zone
  | _, 0 => []
  | lo, n + 1 => (if tick + lo < e then [glideZ p tick lo] else []) ++ glideFrom p tick e (lo + 1) n
def glideM (p : Pass) (tick e : Int) : List Zone := glideFrom p tick e 1 p.glide.toNat
def endM (p : Pass) (n : Int) : Int := if p.tail = "stop" then p.last else n
def endsM (p : Pass) (n : Int) : List Int := p.touches.tail.map (·.1) ++ [endM p n]
def touchM (p : Pass) (t : Int × Int) (l : Int) : List Zone :=
  ⟨t.1, t.2, if p.mode = "trim" then "trim" else "set", none, one⟩ :: (if p.mode ∈ (["write", "latch"] : List Str) then [⟨t.2, l, "set", some (t.2 - 1), one⟩] else glideM p (t.2 - 1) l)
def freezeM (p : Pass) (n : Int) : List Zone := if p.mode = "write" then [⟨p.first, (match p.touches with
  | t :: _ => t.1
  | [] => endM p n), "freeze", none, one⟩] else []
def zonesAll (p : Pass) (n : Int) : List Zone := freezeM p n ++ (p.touches.zip (endsM p n)).flatMap fun x => touchM p x.1 x.2
def zonesM (p : Pass) (n : Int) : List Zone := (zonesAll p n).filter fun z => decide (z.first < z.last)
def spotM (parts : List Piece) (t : Int) : Nat := parts.findIdx fun p => decide (t < p.last)
def cutsM (parts : List Piece) (f e : Int) : List Piece := (parts.takeWhile fun p => decide (p.first < e)).map fun p => cutM p f e
def betweenM (parts : List Piece) (f e : Int) : List Piece := if f < e then cutsM (parts.drop (spotM parts f)) f e else []
def partAtM (parts : List Piece) (t : Int) : Piece := parts.getD (spotM parts t) default
def restM (z : Zone) : Int × Int := if z.word = "trim" then one else minusM one z.weight
def keptM (z : Zone) (ts : Terms) : Terms := ts.map fun x => (x.1, ⟨x.2.place, timesM x.2.weight (restM z)⟩)
def behindZoneM (parts : List Piece) (name : Str) (z : Zone) : List Piece :=
  if z.word = "set" then [⟨z.first, z.last, [(name, ⟨z.place, z.weight⟩)]⟩]
  else if z.word = "freeze" then [⟨z.first, z.last, atM (partAtM parts z.first) z.first⟩]
  else (betweenM parts z.first z.last).map fun p => ⟨p.first, p.last, keptM z p.terms ++ [(name, ⟨z.place, z.weight⟩)]⟩
def behindGo (parts : List Piece) (name : Str) (n : Int) : List Zone → Int → List Piece
  | [], t => betweenM parts t n
  | z :: zs, t => betweenM parts t z.first ++ (behindZoneM parts name z ++ behindGo parts name n zs z.last)
def behindM (parts : List Piece) (p : Pass) (n : Int) : List Piece := behindGo parts p.name n (zonesM p n) 0
def rawM (n : Int) (ps : List Pass) : List Piece := ps.foldl (fun parts p => behindM parts p n) [⟨0, n, [("old", ⟨none, one⟩)]⟩]
def splitM (p : Piece) : List Piece := betweenM [p] p.first (p.first + 1) ++ betweenM [p] (p.first + 1) p.last
def partsM (n : Int) (ps : List Pass) : List Piece := (rawM n ps).flatMap splitM
def singleM (p : Piece) : Piece := if p.last - p.first = 1 then ⟨p.first, p.last, atM p p.first⟩ else p
/-! ### weights -/
def wOk (B : Int) (w : Int × Int) : Prop := 0 ≤ w.1 ∧ w.1 ≤ w.2 ∧ 0 < w.2 ∧ w.2 ≤ B
theorem wOk.mono {B C : Int} {w : Int × Int} (h : wOk B w) (l : B ≤ C) : wOk C w := ⟨h.1, h.2.1, h.2.2.1, Int.le_trans h.2.2.2 l⟩
theorem wOk_one {B : Int} (h : 1 ≤ B) : wOk B one := ⟨by decide, by decide, by decide, h⟩
theorem lows_ok {t b : Int} (h0 : 0 ≤ t) (h1 : t ≤ b) (h2 : 0 < b) : wOk b (lows t b) := by
  have hg := gcd_pos (t := t) h2
  have hl := gcd_le (t := t) h2
  refine ⟨Int.ediv_nonneg h0 (Int.le_of_lt hg), Int.ediv_le_ediv hg h1, Int.ediv_pos_of_pos_of_dvd h2 (Int.le_of_lt hg) (Int.gcd_dvd_right ..), Int.ediv_le_self _ (Int.le_of_lt h2)⟩
theorem minus_ok {B : Int} {w : Int × Int} (h : wOk B w) : wOk B (minusM one w) := by
  obtain ⟨h1, h2, h3, h4⟩ := h
  have e : minusM one w = lows (w.2 - w.1) w.2 := by simp [minusM, one]
  rw [e]
  exact (lows_ok (by omega) (by omega) h3).mono h4
theorem times_ok {B C : Int} {v w : Int × Int} (hv : wOk B v) (hw : wOk C w) : wOk (B * C) (timesM v w) := by
  obtain ⟨v1, v2, v3, v4⟩ := hv
  obtain ⟨w1, w2, w3, w4⟩ := hw
  refine (lows_ok (Int.mul_nonneg v1 w1) (Int.mul_le_mul v2 w2 w1 (Int.le_trans v1 v2)) (Int.mul_pos v3 w3)).mono ?_
  exact Int.mul_le_mul v4 w4 (Int.le_of_lt w3) (by omega)
theorem wOk.frac {w : Int × Int} (h : wOk (101 ^ 9) w) : fracOk w := by
  obtain ⟨h1, h2, h3, h4⟩ := h
  have e : (101 : Int) ^ 9 = 1093685272684360901 := by decide
  rw [e] at h4
  exact ⟨h3, by omega, by omega⟩
/-! ### terms -/
structure TermsOk (ns : List Str) (B : Int) (ts : Terms) : Prop where
  nd : (ts.map (·.1)).Nodup
  sub : ∀ x ∈ ts, x.1 ∈ ns
  wt : ∀ x ∈ ts, wOk B x.2.weight
theorem nodup_len : ∀ {xs ys : List Str}, xs.Nodup → (∀ x ∈ xs, x ∈ ys) → xs.length ≤ ys.length
  | [], _, _, _ => by simp
  | x :: xs, ys, nd, h => by
    obtain ⟨n1, n2⟩ := List.nodup_cons.mp nd
    have hx := h x List.mem_cons_self
    have := nodup_len (xs := xs) (ys := ys.erase x) n2 fun y hy => by
      have ne : y ≠ x := fun e => n1 (by rw [← e]; exact hy)
      exact (List.mem_erase_of_ne ne).mpr (h y (List.mem_cons_of_mem _ hy))
    rw [List.length_erase_of_mem hx] at this
    have hp := List.length_pos_of_mem hx
    simp only [List.length_cons]
    omega
theorem TermsOk.len {ns : List Str} {B : Int} {ts : Terms} (h : TermsOk ns B ts) : ts.length ≤ ns.length := by
  have := nodup_len h.nd (ys := ns) fun x hx => by
    obtain ⟨y, hy, rfl⟩ := List.mem_map.mp hx
    exact h.sub y hy
  simpa using this
theorem TermsOk.mono {ns ms : List Str} {B C : Int} {ts : Terms} (h : TermsOk ns B ts) (hs : ∀ x ∈ ns, x ∈ ms) (l : B ≤ C) : TermsOk ms C ts := ⟨h.nd, fun x hx => hs _ (h.sub x hx), fun x hx => (h.wt x hx).mono l⟩
theorem TermsOk.at {ns : List Str} {B : Int} {p : Piece} (h : TermsOk ns B p.terms) (t : Int) : TermsOk ns B (atM p t) := by
  refine ⟨?_, fun x hx => ?_, fun x hx => ?_⟩
  · have e : (atM p t).map (·.1) = p.terms.map (·.1) := by
      unfold atM
      rw [List.map_map]
      rfl
    rw [e]
    exact h.nd
  · obtain ⟨y, hy, rfl⟩ := List.mem_map.mp hx
    exact h.sub y hy
  · obtain ⟨y, hy, rfl⟩ := List.mem_map.mp hx
    exact h.wt y hy
theorem TermsOk.kept {ns : List Str} {B : Int} {z : Zone} {ts : Terms} (h : TermsOk ns B ts) (hz : wOk 101 z.weight) : TermsOk ns (B * 101) (keptM z ts) := by
  refine ⟨?_, fun x hx => ?_, fun x hx => ?_⟩
  · have e : (keptM z ts).map (·.1) = ts.map (·.1) := by
      unfold keptM
      rw [List.map_map]
      rfl
    rw [e]
    exact h.nd
  · obtain ⟨y, hy, rfl⟩ := List.mem_map.mp hx
    exact h.sub y hy
  · obtain ⟨y, hy, rfl⟩ := List.mem_map.mp hx
    refine times_ok (h.wt y hy) ?_
    unfold restM
    split
    · exact wOk_one (by decide)
    · exact minus_ok hz
/-! ### tiles -/
def Tile : Int → Int → List Piece → Prop
  | x, y, [] => x = y
  | x, y, p :: ps => p.first = x ∧ p.first < p.last ∧ Tile p.last y ps
theorem Tile.le : ∀ {ps : List Piece} {x y : Int}, Tile x y ps → x ≤ y
  | [], _, _, h => Int.le_of_eq h
  | p :: ps, _, _, h => by
    have := Tile.le h.2.2
    have := h.1
    have := h.2.1
    omega
theorem Tile.append : ∀ {ps qs : List Piece} {x y z : Int}, Tile x y ps → Tile y z qs → Tile x z (ps ++ qs)
  | [], _, _, _, _, h, k => by cases h; exact k
  | p :: ps, _, _, _, _, h, k => ⟨h.1, h.2.1, Tile.append h.2.2 k⟩
theorem Tile.map {g : Piece → Piece} (hf : ∀ p, (g p).first = p.first) (hl : ∀ p, (g p).last = p.last) : ∀ {ps : List Piece} {x y : Int}, Tile x y ps → Tile x y (ps.map g)
  | [], _, _, h => h
  | p :: ps, _, _, h => ⟨(hf p).trans h.1, by rw [hf, hl]; exact h.2.1, by rw [hl]; exact Tile.map hf hl h.2.2⟩
theorem Tile.lasts : ∀ {ps : List Piece} {x y : Int}, Tile x y ps → ∀ p ∈ ps, x ≤ p.first ∧ p.first < p.last ∧ p.last ≤ y
  | [], _, _, _, _, hp => (List.not_mem_nil hp).elim
  | q :: ps, x, y, h, p, hp => by
    have hl := Tile.le h.2.2
    rcases List.mem_cons.mp hp with rfl | hp
    · exact ⟨Int.le_of_eq h.1.symm, h.2.1, hl⟩
    · have ih := Tile.lasts h.2.2 p hp
      have := h.1
      have := h.2.1
      exact ⟨by omega, ih.2.1, ih.2.2⟩
theorem Tile.sorted : ∀ {ps : List Piece} {x y : Int}, Tile x y ps → ∀ {i j : Nat} {p q : Piece}, ps[i]? = some p → ps[j]? = some q → i ≤ j → p.last ≤ q.last
  | [], _, _, _, _, _, _, _, hi, _, _ => by simp at hi
  | r :: ps, _, _, h, 0, 0, p, q, hi, hj, _ => by
    cases (show r = p by simpa using hi)
    cases (show r = q by simpa using hj)
    exact Int.le_refl _
  | r :: ps, _, _, h, 0, j + 1, p, q, hi, hj, _ => by
    cases (show r = p by simpa using hi)
    have hj : ps[j]? = some q := by simpa using hj
    have := Tile.lasts h.2.2 q (List.mem_of_getElem? hj)
    omega
  | r :: ps, _, _, h, i + 1, j + 1, p, q, hi, hj, hl => Tile.sorted h.2.2 (by simpa using hi) (by simpa using hj) (by omega)
  | r :: ps, _, _, h, i + 1, 0, p, q, hi, hj, hl => by omega
theorem spot_cons_lt {p : Piece} {ps : List Piece} {t : Int} (h : t < p.last) : spotM (p :: ps) t = 0 := by
  unfold spotM
  rw [List.findIdx_cons, decide_eq_true h]
  rfl
theorem spot_cons_ge {p : Piece} {ps : List Piece} {t : Int} (h : ¬ t < p.last) : spotM (p :: ps) t = spotM ps t + 1 := by
  unfold spotM
  rw [List.findIdx_cons, decide_eq_false h]
  rfl
theorem spot_le {ps : List Piece} {t : Int} : spotM ps t ≤ ps.length := List.findIdx_le_length
theorem spot_at : ∀ {ps : List Piece} {x y t : Int}, Tile x y ps → x ≤ t → t < y → ∃ p, ps[spotM ps t]? = some p ∧ p.first ≤ t ∧ t < p.last
  | [], _, _, _, h, h1, h2 => by
    have h : _ = _ := h
    omega
  | p :: ps, x, y, t, h, h1, h2 => by
    by_cases c : t < p.last
    · rw [spot_cons_lt c]
      exact ⟨p, rfl, by have := h.1; omega, c⟩
    · rw [spot_cons_ge c]
      obtain ⟨q, e, k⟩ := spot_at h.2.2 (by omega) h2
      exact ⟨q, by simpa using e, k⟩
theorem partAt_mem {ps : List Piece} {x y t : Int} (h : Tile x y ps) (h1 : x ≤ t) (h2 : t < y) : ps[spotM ps t]? = some (partAtM ps t) ∧ partAtM ps t ∈ ps ∧ (partAtM ps t).first ≤ t ∧ t < (partAtM ps t).last := by
  obtain ⟨p, e, k⟩ := spot_at h h1 h2
  have ep : partAtM ps t = p := by
    unfold partAtM
    rw [List.getD_eq_getElem?_getD, e]
    rfl
  rw [ep]
  exact ⟨e, List.mem_of_getElem? e, k⟩
theorem cuts_nil {ps : List Piece} {x y f e : Int} (h : Tile x y ps) (he : e ≤ x) : cutsM ps f e = [] := by
  cases ps with
  | nil => rfl
  | cons p ps =>
    unfold cutsM
    rw [List.takeWhile_cons_of_neg (by have := h.1; simp; omega)]
    rfl
theorem cuts_cons {p : Piece} {ps : List Piece} {f e : Int} (h : p.first < e) : cutsM (p :: ps) f e = cutM p f e :: cutsM ps f e := by
  unfold cutsM
  rw [List.takeWhile_cons_of_pos (by simpa using h)]
  rfl
theorem cuts_tile : ∀ {ps : List Piece} {x y f e : Int}, Tile x y ps → f ≤ x → x ≤ e → e ≤ y → Tile x e (cutsM ps f e)
  | [], _, _, _, _, h, _, h2, h3 => by
    have h : _ = _ := h
    show _ = _
    omega
  | p :: ps, x, y, f, e, h, h1, h2, h3 => by
    have ht := h
    obtain ⟨a1, a2, a3⟩ := h
    by_cases c : p.first < e
    · rw [cuts_cons c]
      refine ⟨by simp only [cutM]; omega, by simp only [cutM]; omega, ?_⟩
      show Tile (min p.last e) e _
      by_cases d : p.last ≤ e
      · rw [Int.min_eq_left d]
        exact cuts_tile a3 (by omega) d h3
      · rw [Int.min_eq_right (by omega), cuts_nil a3 (by omega)]
        exact rfl
    · rw [cuts_nil ht (by omega)]
      show x = e
      omega
theorem cuts_len : ∀ {ps : List Piece} {x y f e : Int}, Tile x y ps → (cutsM ps f e).length ≤ spotM ps e + 1
  | [], _, _, _, _, _ => by simp [cutsM]
  | p :: ps, x, y, f, e, h => by
    by_cases c : p.first < e
    · rw [cuts_cons c, List.length_cons]
      by_cases d : e < p.last
      · rw [spot_cons_lt d, cuts_nil h.2.2 (by omega)]
        simp
      · rw [spot_cons_ge d]
        have := cuts_len (f := f) (e := e) h.2.2
        omega
    · rw [cuts_nil h (by have := h.1; omega)]
      simp
theorem between_cons_lt {p : Piece} {ps : List Piece} {f e : Int} (h : f < p.last) (hfe : f < e) : betweenM (p :: ps) f e = cutsM (p :: ps) f e := by
  unfold betweenM
  rw [if_pos hfe, spot_cons_lt h]
  rfl
theorem between_cons_ge {p : Piece} {ps : List Piece} {f e : Int} (h : ¬ f < p.last) : betweenM (p :: ps) f e = betweenM ps f e := by
  unfold betweenM
  rw [spot_cons_ge h]
  rfl
theorem between_self {ps : List Piece} {f : Int} : betweenM ps f f = [] := if_neg (by omega)
theorem between_tile : ∀ {ps : List Piece} {x y f e : Int}, Tile x y ps → x ≤ f → f ≤ e → e ≤ y → Tile f e (betweenM ps f e)
  | [], _, _, f, e, h, h1, h2, h3 => by
    have h : _ = _ := h
    have e1 : f = e := by omega
    subst e1
    rw [between_self]
    exact rfl
  | p :: ps, x, y, f, e, h, h1, h2, h3 => by
    by_cases hfe : f < e
    · by_cases c : f < p.last
      · rw [between_cons_lt c hfe, cuts_cons (by have := h.1; omega)]
        have a1 := h.1
        refine ⟨by simp only [cutM]; omega, by simp only [cutM]; omega, ?_⟩
        show Tile (min p.last e) e _
        by_cases d : p.last ≤ e
        · rw [Int.min_eq_left d]
          exact cuts_tile h.2.2 (by omega) d h3
        · rw [Int.min_eq_right (by omega), cuts_nil h.2.2 (by omega)]
          exact rfl
      · rw [between_cons_ge c]
        exact between_tile h.2.2 (by omega) h2 h3
    · have e1 : f = e := by omega
      subst e1
      rw [between_self]
      exact rfl
theorem between_len : ∀ {ps : List Piece} {x y f e : Int}, Tile x y ps → f ≤ e → (betweenM ps f e).length + spotM ps f ≤ spotM ps e + 1
  | [], _, _, _, _, _, _ => by
    unfold betweenM
    split <;> simp [cutsM, spotM]
  | p :: ps, x, y, f, e, h, h2 => by
    by_cases c : f < p.last
    · rw [spot_cons_lt c]
      by_cases hfe : f < e
      · rw [between_cons_lt c hfe]
        exact cuts_len h
      · unfold betweenM
        rw [if_neg hfe]
        simp
    · rw [between_cons_ge c, spot_cons_ge c, spot_cons_ge (by omega)]
      have := between_len h.2.2 h2
      omega
theorem between_le {ps : List Piece} {f e : Int} : (betweenM ps f e).length ≤ ps.length := by
  unfold betweenM
  split
  · unfold cutsM
    rw [List.length_map]
    exact Nat.le_trans (List.takeWhile_sublist _).length_le (List.drop_sublist _ _).length_le
  · exact Nat.zero_le _
theorem between_terms {ps : List Piece} {f e : Int} {T : Terms → Prop} (h : ∀ p ∈ ps, T p.terms) : ∀ p ∈ betweenM ps f e, T p.terms := by
  intro p hp
  unfold betweenM at hp
  split at hp
  · unfold cutsM at hp
    obtain ⟨q, hq, rfl⟩ := List.mem_map.mp hp
    exact h q (List.mem_of_mem_drop ((List.takeWhile_sublist _).subset hq))
  · exact (List.not_mem_nil hp).elim
/-! ### zones -/
def Zw : Int → Int → List Zone → Prop
  | x, y, [] => x ≤ y
  | x, y, z :: zs => x ≤ z.first ∧ z.first ≤ z.last ∧ Zw z.last y zs
def Zs : Int → Int → List Zone → Prop
  | x, y, [] => x ≤ y
  | x, y, z :: zs => x ≤ z.first ∧ z.first < z.last ∧ Zs z.last y zs
theorem Zs.mono : ∀ {zs : List Zone} {w x y : Int}, Zs x y zs → w ≤ x → Zs w y zs
  | [], _, _, _, h, l => Int.le_trans l h
  | z :: zs, _, _, _, h, l => ⟨Int.le_trans l h.1, h.2⟩
theorem Zw.mono : ∀ {zs : List Zone} {w x y : Int}, Zw x y zs → w ≤ x → Zw w y zs
  | [], _, _, _, h, l => Int.le_trans l h
  | z :: zs, _, _, _, h, l => ⟨Int.le_trans l h.1, h.2⟩
theorem Zw.le : ∀ {zs : List Zone} {x y : Int}, Zw x y zs → x ≤ y
  | [], _, _, h => h
  | z :: zs, _, _, h => by
    have := Zw.le h.2.2
    have := h.1
    have := h.2.1
    omega
theorem Zs.le : ∀ {zs : List Zone} {x y : Int}, Zs x y zs → x ≤ y
  | [], _, _, h => h
  | z :: zs, _, _, h => by
    have := Zs.le h.2.2
    have := h.1
    have := h.2.1
    omega
theorem Zw.append : ∀ {zs ws : List Zone} {x y z : Int}, Zw x y zs → Zw y z ws → Zw x z (zs ++ ws)
  | [], _, _, _, _, h, k => k.mono h
  | z :: zs, _, _, _, _, h, k => ⟨h.1, h.2.1, Zw.append h.2.2 k⟩
theorem Zw.filter : ∀ {zs : List Zone} {x y : Int}, Zw x y zs → Zs x y (zs.filter fun z => decide (z.first < z.last))
  | [], _, _, h => h
  | z :: zs, x, y, h => by
    have ih := Zw.filter h.2.2
    by_cases c : z.first < z.last
    · rw [List.filter_cons_of_pos (by simpa using c)]
      exact ⟨h.1, c, ih⟩
    · rw [List.filter_cons_of_neg (by simpa using c)]
      exact ih.mono (by have := h.1; have := h.2.1; omega)
theorem glide_zw {p : Pass} {tick e : Int} : ∀ {n : Nat} {lo x : Int}, x ≤ tick + lo → x ≤ e → Zw x e (glideFrom p tick e lo n)
  | 0, _, _, _, h => h
  | n + 1, lo, x, h1, h2 => by
    unfold glideFrom
    by_cases c : tick + lo < e
    · rw [if_pos c]
      exact ⟨h1, by simp only [glideZ]; omega, glide_zw (by simp only [glideZ]; omega) (by simp only [glideZ]; omega)⟩
    · rw [if_neg c]
      exact glide_zw (by omega) h2
theorem glide_wt {p : Pass} {tick e : Int} (hg : p.glide ≤ 100) : ∀ {n : Nat} {lo : Int}, 1 ≤ lo → lo + n ≤ p.glide + 1 → ∀ z ∈ glideFrom p tick e lo n, wOk 101 z.weight
  | 0, _, _, _, _, hz => (List.not_mem_nil hz).elim
  | n + 1, lo, h1, h2, z, hz => by
    unfold glideFrom at hz
    rcases List.mem_append.mp hz with hz | hz
    · split at hz
      · obtain rfl : z = glideZ p tick lo := by simpa using hz
        exact (lows_ok (by omega) (by omega) (by omega)).mono (by omega)
      · exact (List.not_mem_nil hz).elim
    · exact glide_wt hg (by omega) (by omega) z hz
theorem glide_len {p : Pass} {tick e : Int} : ∀ {n : Nat} {lo : Int}, (glideFrom p tick e lo n).length ≤ n
  | 0, _ => by simp [glideFrom]
  | n + 1, lo => by
    unfold glideFrom
    have := glide_len (p := p) (tick := tick) (e := e) (n := n) (lo := lo + 1)
    rw [List.length_append]
    split
    · simp; omega
    · simp; omega
theorem touch_zw {p : Pass} {t : Int × Int} {l : Int} (h1 : t.1 < t.2) (h2 : t.2 ≤ l) : Zw t.1 l (touchM p t l) := by
  refine ⟨Int.le_refl _, Int.le_of_lt h1, ?_⟩
  show Zw t.2 l _
  split
  · exact ⟨Int.le_refl _, h2, Int.le_refl _⟩
  · exact glide_zw (by omega) h2
theorem touch_wt {p : Pass} {t : Int × Int} {l : Int} (h0 : 0 ≤ p.glide) (hg : p.glide ≤ 100) : ∀ z ∈ touchM p t l, wOk 101 z.weight := by
  intro z hz
  rcases List.mem_cons.mp hz with rfl | hz
  · exact wOk_one (by decide)
  · split at hz
    · obtain rfl := List.mem_singleton.mp hz
      exact wOk_one (by decide)
    · exact glide_wt hg (by omega) (by omega) z hz
theorem touch_few {p : Pass} {t : Int × Int} {l : Int} (hg : p.glide ≤ 100) : (touchM p t l).length ≤ 101 := by
  unfold touchM
  rw [List.length_cons]
  split
  · simp
  · have := glide_len (p := p) (tick := t.2 - 1) (e := l) (n := p.glide.toNat) (lo := 1)
    unfold glideM
    omega
/-- touches one behind another -/
def Ts : Int → Int → List (Int × Int) → Prop
  | x, y, [] => x ≤ y
  | x, y, t :: ts => x ≤ t.1 ∧ t.1 < t.2 ∧ Ts t.2 y ts
theorem ts_of : ∀ {ts : List (Int × Int)} {x y : Int}, x ≤ y → (∀ t ∈ ts, x ≤ t.1 ∧ t.1 < t.2 ∧ t.2 ≤ y) → gapsD (ts.map pr) = true → Ts x y ts
  | [], _, _, h, _, _ => h
  | [t], x, y, h, ht, _ => by
    obtain ⟨a1, a2, a3⟩ := ht t List.mem_cons_self
    exact ⟨a1, a2, a3⟩
  | t :: u :: ts, x, y, h, ht, hg => by
    obtain ⟨a1, a2, a3⟩ := ht t List.mem_cons_self
    have hg : (decide (t.2 < u.1) && gapsD ((u :: ts).map pr)) = true := hg
    rw [Bool.and_eq_true, decide_eq_true_eq] at hg
    refine ⟨a1, a2, ts_of (x := t.2) a3 (fun v hv => ?_) hg.2⟩
    obtain ⟨b1, b2, b3⟩ := ht v (List.mem_cons_of_mem _ hv)
    refine ⟨?_, b2, b3⟩
    have key : ∀ {vs : List (Int × Int)} {w : Int × Int}, gapsD ((w :: vs).map pr) = true → (∀ v ∈ w :: vs, v.1 < v.2) → ∀ v ∈ w :: vs, w.1 ≤ v.1 := by
      intro vs
      induction vs with
      | nil =>
        intro w _ _ v hv
        obtain rfl := List.mem_singleton.mp hv
        exact Int.le_refl _
      | cons s vs ih =>
        intro w hg hm v hv
        have hg : (decide (w.2 < s.1) && gapsD ((s :: vs).map pr)) = true := hg
        rw [Bool.and_eq_true, decide_eq_true_eq] at hg
        rcases List.mem_cons.mp hv with rfl | hv
        · exact Int.le_refl _
        · have := ih hg.2 (fun v hv => hm v (List.mem_cons_of_mem _ hv)) v hv
          have := hm w List.mem_cons_self
          omega
    have := key hg.2 (fun v hv => (ht v (List.mem_cons_of_mem _ hv)).2.1) v hv
    omega
theorem touches_zw {p : Pass} : ∀ {ts : List (Int × Int)} {x y e : Int}, Ts x y ts → y ≤ e → Zw (match ts with
    | t :: _ => t.1
    | [] => e) e ((ts.zip (ts.tail.map (·.1) ++ [e])).flatMap fun u => touchM p u.1 u.2)
  | [], _, _, e, _, _ => Int.le_refl e
  | [t], x, y, e, h, he => by
    show Zw t.1 e (touchM p t e ++ [])
    rw [List.append_nil]
    have h3 : t.2 ≤ y := h.2.2
    exact touch_zw h.2.1 (by omega)
  | t :: u :: ts, x, y, e, h, he => by
    have ih := touches_zw (p := p) h.2.2 he
    show Zw t.1 e (touchM p t u.1 ++ (((u :: ts).zip (ts.map (·.1) ++ [e])).flatMap fun u => touchM p u.1 u.2))
    exact (touch_zw h.2.1 h.2.2.1).append ih
theorem touches_wt {p : Pass} (h0 : 0 ≤ p.glide) (hg : p.glide ≤ 100) {xs : List ((Int × Int) × Int)} : ∀ z ∈ xs.flatMap fun u => touchM p u.1 u.2, wOk 101 z.weight := by
  intro z hz
  obtain ⟨u, _, hz⟩ := List.mem_flatMap.mp hz
  exact touch_wt h0 hg z hz
theorem touches_few {p : Pass} (hg : p.glide ≤ 100) : ∀ {xs : List ((Int × Int) × Int)}, (xs.flatMap fun u => touchM p u.1 u.2).length ≤ 101 * xs.length
  | [] => by simp
  | u :: xs => by
    have ih := touches_few hg (xs := xs)
    have := touch_few (p := p) (t := u.1) (l := u.2) hg
    rw [List.flatMap_cons, List.length_append, List.length_cons]
    omega
theorem end_ok {n : Int} {p : Pass} (h : RightP n p) : p.last ≤ endM p n ∧ endM p n ≤ n := by
  have := h.ends
  unfold endM
  split <;> omega
theorem all_zw {n : Int} {p : Pass} (h : RightP n p) : Zw p.first n (zonesAll p n) := by
  obtain ⟨e1, e2⟩ := end_ok h
  obtain ⟨f1, f2, f3⟩ := h.ends
  have hts := ts_of (x := p.first) (y := p.last) (by omega) h.touches h.gaps
  have z := touches_zw (p := p) hts e1
  have z : Zw (match p.touches with
    | t :: _ => t.1
    | [] => endM p n) n ((p.touches.zip (endsM p n)).flatMap fun x => touchM p x.1 x.2) := by
    have := z.append (show Zw (endM p n) n [] from e2)
    rwa [List.append_nil] at this
  have hx : p.first ≤ (match p.touches with
    | t :: _ => t.1
    | [] => endM p n) := by
    split
    · rename_i t ts et
      exact (h.touches t (by rw [et]; exact List.mem_cons_self)).1
    · omega
  unfold zonesAll freezeM
  split
  · exact ⟨Int.le_refl _, hx, z⟩
  · exact z.mono hx
theorem zones_zs {n : Int} {p : Pass} (h : RightP n p) : Zs 0 n (zonesM p n) := (all_zw h).filter.mono h.ends.1
theorem zones_wt {n : Int} {p : Pass} (h : RightP n p) : ∀ z ∈ zonesM p n, wOk 101 z.weight := by
  intro z hz
  have hz := (List.mem_filter.mp hz).1
  unfold zonesAll freezeM at hz
  rcases List.mem_append.mp hz with hz | hz
  · split at hz
    · obtain rfl := List.mem_singleton.mp hz
      exact wOk_one (by decide)
    · exact (List.not_mem_nil hz).elim
  · exact touches_wt h.glide.1 h.glide.2 z hz
theorem all_few {n : Int} {p : Pass} (h : RightP n p) : (zonesAll p n).length ≤ 607 := by
  have h1 := touches_few h.glide.2 (xs := p.touches.zip (endsM p n))
  have h2 : (p.touches.zip (endsM p n)).length ≤ 6 := by
    rw [List.length_zip]
    have := h.few
    omega
  unfold zonesAll freezeM
  rw [List.length_append]
  split
  · simp only [List.length_cons, List.length_nil]; omega
  · simp only [List.length_nil]; omega
theorem zones_few {n : Int} {p : Pass} (h : RightP n p) : (zonesM p n).length ≤ 607 := Nat.le_trans (List.length_filter_le _ _) (all_few h)
/-! ### behind -/
structure PartsOk (ns : List Str) (B x y : Int) (ps : List Piece) : Prop where
  tile : Tile x y ps
  terms : ∀ p ∈ ps, TermsOk ns B p.terms
theorem PartsOk.append {ns : List Str} {B x y z : Int} {ps qs : List Piece} (h : PartsOk ns B x y ps) (k : PartsOk ns B y z qs) : PartsOk ns B x z (ps ++ qs) :=
  ⟨h.tile.append k.tile, fun p hp => (List.mem_append.mp hp).elim (h.terms p) (k.terms p)⟩
theorem PartsOk.mono {ns ms : List Str} {B C x y : Int} {ps : List Piece} (h : PartsOk ns B x y ps) (hs : ∀ x ∈ ns, x ∈ ms) (l : B ≤ C) : PartsOk ms C x y ps := ⟨h.tile, fun p hp => (h.terms p hp).mono hs l⟩
theorem PartsOk.between {ns : List Str} {B x y f e : Int} {ps : List Piece} (h : PartsOk ns B x y ps) (h1 : x ≤ f) (h2 : f ≤ e) (h3 : e ≤ y) : PartsOk ns B f e (betweenM ps f e) := ⟨between_tile h.tile h1 h2 h3, between_terms h.terms⟩
theorem behindZone_ok {ns : List Str} {B n : Int} {ps : List Piece} {name : Str} {z : Zone} (h : PartsOk ns B 0 n ps) (hB : 1 ≤ B) (hn : name ∉ ns) (h1 : 0 ≤ z.first) (h2 : z.first < z.last) (h3 : z.last ≤ n) (hz : wOk 101 z.weight) :
    PartsOk (ns ++ [name]) (B * 101) z.first z.last (behindZoneM ps name z) := by
  have own : wOk (B * 101) z.weight := hz.mono (by omega)
  have sub : ∀ x ∈ ns, x ∈ ns ++ [name] := fun x hx => List.mem_append_left _ hx
  unfold behindZoneM
  split
  · refine ⟨⟨rfl, h2, rfl⟩, fun p hp => ?_⟩
    obtain rfl := List.mem_singleton.mp hp
    exact ⟨by simp, fun x hx => by obtain rfl := List.mem_singleton.mp hx; simp, fun x hx => by obtain rfl := List.mem_singleton.mp hx; exact own⟩
  · split
    · refine ⟨⟨rfl, h2, rfl⟩, fun p hp => ?_⟩
      obtain rfl := List.mem_singleton.mp hp
      exact ((h.terms _ (partAt_mem h.tile h1 (by omega)).2.1).at z.first).mono sub (by omega)
    · have hb := h.between h1 (Int.le_of_lt h2) h3
      refine ⟨hb.tile.map (g := fun p => ⟨p.first, p.last, keptM z p.terms ++ [(name, ⟨z.place, z.weight⟩)]⟩) (fun _ => rfl) (fun _ => rfl), fun p hp => ?_⟩
      obtain ⟨q, hq, rfl⟩ := List.mem_map.mp hp
      have hk := (hb.terms q hq).kept hz
      refine ⟨?_, fun x hx => ?_, fun x hx => ?_⟩
      · rw [List.map_append, List.nodup_append]
        refine ⟨hk.nd, by simp, fun x hx y hy => ?_⟩
        obtain ⟨u, hu, rfl⟩ := List.mem_map.mp hx
        have : y = name := by simpa using hy
        intro e
        exact hn (by rw [← this, ← e]; exact hk.sub u hu)
      · rcases List.mem_append.mp hx with hx | hx
        · exact sub _ (hk.sub x hx)
        · obtain rfl := List.mem_singleton.mp hx
          simp
      · rcases List.mem_append.mp hx with hx | hx
        · exact hk.wt x hx
        · obtain rfl := List.mem_singleton.mp hx
          exact own
theorem behindGo_ok {ns : List Str} {B n : Int} {ps : List Piece} {name : Str} (h : PartsOk ns B 0 n ps) (hB : 1 ≤ B) (hn : name ∉ ns) : ∀ {zs : List Zone} {t : Int}, 0 ≤ t → Zs t n zs → (∀ z ∈ zs, wOk 101 z.weight) →
    PartsOk (ns ++ [name]) (B * 101) t n (behindGo ps name n zs t)
  | [], t, h0, hz, _ => (h.between h0 hz (Int.le_refl _)).mono (fun x hx => List.mem_append_left _ hx) (by omega)
  | z :: zs, t, h0, hz, hw => by
    have hl := Zs.le hz.2.2
    have a1 := hz.1
    have a2 := hz.2.1
    refine ((h.between h0 a1 (by omega)).mono (fun x hx => List.mem_append_left _ hx) (by omega)).append ((behindZone_ok h hB hn (by omega) a2 hl (hw z List.mem_cons_self)).append ?_)
    exact behindGo_ok h hB hn (by omega) hz.2.2 fun z hz => hw z (List.mem_cons_of_mem _ hz)
theorem behind_ok {ns : List Str} {B n : Int} {ps : List Piece} {p : Pass} (h : PartsOk ns B 0 n ps) (hB : 1 ≤ B) (hn : p.name ∉ ns) (hp : RightP n p) : PartsOk (ns ++ [p.name]) (B * 101) 0 n (behindM ps p n) :=
  behindGo_ok h hB hn (Int.le_refl _) (zones_zs hp) (zones_wt hp)
theorem zone_len {ps : List Piece} {x y : Int} {name : Str} {z : Zone} (h : Tile x y ps) (h2 : z.first ≤ z.last) : (behindZoneM ps name z).length + spotM ps z.first ≤ spotM ps z.last + 1 := by
  have hb := between_len h h2
  have mono : spotM ps z.first ≤ spotM ps z.last := by
    clear hb
    induction ps generalizing x with
    | nil => exact Nat.le_refl _
    | cons p ps ih =>
      by_cases c : z.first < p.last
      · rw [spot_cons_lt c]; omega
      · rw [spot_cons_ge c, spot_cons_ge (by omega)]
        have := ih h.2.2
        omega
  unfold behindZoneM
  split
  · simp only [List.length_cons, List.length_nil]; omega
  · split
    · simp only [List.length_cons, List.length_nil]; omega
    · rw [List.length_map]; exact hb
theorem go_len {ps : List Piece} {x y n : Int} {name : Str} (h : Tile x y ps) : ∀ {zs : List Zone} {t : Int}, Zs t n zs → (behindGo ps name n zs t).length + spotM ps t ≤ ps.length + 2 * zs.length + 1
  | [], t, hz => by
    have := between_len (e := n) h hz
    have := spot_le (ps := ps) (t := n)
    simp only [behindGo, List.length_nil]
    omega
  | z :: zs, t, hz => by
    have h1 := between_len h hz.1
    have h2 := zone_len (name := name) h (Int.le_of_lt hz.2.1)
    have ih := go_len (name := name) h hz.2.2
    simp only [behindGo, List.length_append, List.length_cons]
    omega
theorem behind_len {ps : List Piece} {x y n : Int} {p : Pass} (h : Tile x y ps) (hp : RightP n p) : (behindM ps p n).length ≤ ps.length + 1215 := by
  have := go_len (name := p.name) h (zones_zs hp)
  have := zones_few hp
  unfold behindM
  omega
/-- sources of a track -/
def srcs (ps : List Pass) : List Str := "old" :: ps.map (·.name)
theorem fold_ok {n : Int} : ∀ {ps : List Pass} {ns : List Str} {k : Nat} {parts : List Piece}, PartsOk ns (101 ^ k) 0 n parts → (ns ++ ps.map (·.name)).Nodup → (∀ p ∈ ps, RightP n p) →
    PartsOk (ns ++ ps.map (·.name)) (101 ^ (k + ps.length)) 0 n (ps.foldl (fun parts p => behindM parts p n) parts) ∧ (ps.foldl (fun parts p => behindM parts p n) parts).length ≤ parts.length + 1215 * ps.length
  | [], ns, k, parts, h, _, _ => by simpa using h
  | p :: ps, ns, k, parts, h, nd, hp => by
    have nd' : ((ns ++ [p.name]) ++ ps.map (·.name)).Nodup := by simpa using nd
    have hn : p.name ∉ ns := fun z => by
      rw [List.nodup_append] at nd
      exact nd.2.2 _ z _ (by simp) rfl
    have hB : (1 : Int) ≤ 101 ^ k := by
      have : (0 : Int) < 101 ^ k := Int.pow_pos (by decide)
      omega
    have hr := hp p List.mem_cons_self
    have h1 := behind_ok h hB hn hr
    have h2 := behind_len h.tile hr
    obtain ⟨i1, i2⟩ := fold_ok (k := k + 1) (parts := behindM parts p n) (by rw [Int.pow_succ]; exact h1) nd' fun q hq => hp q (List.mem_cons_of_mem _ hq)
    refine ⟨?_, ?_⟩
    · have e : k + 1 + ps.length = k + (p :: ps).length := by simp only [List.length_cons]; omega
      rw [← e]
      simpa using i1
    · rw [List.length_cons, List.foldl_cons]
      omega
structure RightT (n : Int) (ps : List Pass) : Prop where
  lo : 1 ≤ n
  hi : n ≤ 10 ^ 12
  few : ps.length ≤ 8
  right : ∀ p ∈ ps, RightP n p
  nd : (ps.map (·.name)).Nodup
theorem TrackOk.rt {n : Int} {ps : List Pass} (h : TrackOk n ps) : RightT n ps := ⟨h.lo, h.hi, h.few, fun p hp => right_of (h.right p hp), h.nd⟩
theorem raw_ok {n : Int} {ps : List Pass} (h : RightT n ps) : PartsOk (srcs ps) (101 ^ 9) 0 n (rawM n ps) ∧ (rawM n ps).length ≤ 9721 := by
  have start : PartsOk ["old"] (101 ^ 0) 0 n [⟨0, n, [("old", ⟨none, one⟩)]⟩] := by
    refine ⟨⟨rfl, by show (0 : Int) < n; have := h.lo; omega, rfl⟩, fun p hp => ?_⟩
    obtain rfl := List.mem_singleton.mp hp
    exact ⟨by simp, fun x hx => by obtain rfl := List.mem_singleton.mp hx; simp, fun x hx => by obtain rfl := List.mem_singleton.mp hx; exact wOk_one (by decide)⟩
  obtain ⟨h1, h2⟩ := fold_ok (ps := ps) start (by
    refine List.nodup_cons.mpr ⟨fun hm => ?_, h.nd⟩
    obtain ⟨p, hp, e⟩ := List.mem_map.mp hm
    exact (h.right p hp).old e) h.right
  have h8 := h.few
  refine ⟨h1.mono (fun x hx => hx) ?_, ?_⟩
  · rw [Nat.zero_add]
    have key : ∀ k : Nat, k < 9 → (101 : Int) ^ k ≤ 101 ^ 9 := by decide
    exact key _ (by omega)
  · have h2 : (rawM n ps).length ≤ 1 + 1215 * ps.length := h2
    omega
theorem split_ok {ns : List Str} {B : Int} {p : Piece} (h : p.first < p.last) (ht : TermsOk ns B p.terms) : PartsOk ns B p.first p.last (splitM p) ∧ (splitM p).length ≤ 2 := by
  have t : PartsOk ns B p.first p.last [p] := ⟨⟨rfl, h, rfl⟩, fun q hq => by obtain rfl := List.mem_singleton.mp hq; exact ht⟩
  refine ⟨(t.between (Int.le_refl _) (by omega) (by omega)).append (t.between (by omega) (by omega) (Int.le_refl _)), ?_⟩
  have h1 := between_le (ps := [p]) (f := p.first) (e := p.first + 1)
  have h2 := between_le (ps := [p]) (f := p.first + 1) (e := p.last)
  have h3 : [p].length = 1 := rfl
  unfold splitM
  rw [List.length_append]
  omega
theorem splits_ok {ns : List Str} {B : Int} : ∀ {ps : List Piece} {x y : Int}, PartsOk ns B x y ps → PartsOk ns B x y (ps.flatMap splitM) ∧ (ps.flatMap splitM).length ≤ 2 * ps.length
  | [], _, _, h => ⟨h, by simp⟩
  | p :: ps, x, y, h => by
    obtain ⟨a1, a2, a3⟩ := h.tile
    obtain ⟨s1, s2⟩ := split_ok a2 (h.terms p List.mem_cons_self)
    obtain ⟨i1, i2⟩ := splits_ok (ps := ps) ⟨a3, fun q hq => h.terms q (List.mem_cons_of_mem _ hq)⟩
    subst a1
    rw [List.flatMap_cons]
    refine ⟨s1.append i1, ?_⟩
    rw [List.length_append, List.length_cons]
    omega
theorem parts_ok {n : Int} {ps : List Pass} (h : RightT n ps) : PartsOk (srcs ps) (101 ^ 9) 0 n (partsM n ps) ∧ (partsM n ps).length ≤ 20000 := by
  obtain ⟨h1, h2⟩ := raw_ok h
  obtain ⟨h3, h4⟩ := splits_ok h1
  exact ⟨h3, Nat.le_trans h4 (by omega)⟩
end TP
end
section
set_option maxRecDepth 100000
set_option maxHeartbeats 1000000
/-! forms.py: parts and zones as things. -/
namespace TP
open PySem PySem.Spec PyProof.Rows DL
open L2 hiding Room FnOk takes0
def placeD : Option Int → D
  | none => .non
  | some i => .int i
abbrev termD (t : Term) : D := .tup [placeD t.place, pr t.weight]
def kvsD (ts : Terms) : List (Key × D) := ts.map fun x => (.inr x.1, termD x.2)
abbrev termsD (ts : Terms) : D := .dict (kvsD ts)
abbrev partD (a : Ad) (p : Piece) : D := .ins a.Part [("first", .int p.first), ("end", .int p.last), ("terms", termsD p.terms)]
abbrev partsD (a : Ad) (ps : List Piece) : D := .lst (ps.map (partD a))
abbrev zoneD (a : Ad) (z : Zone) : D := .ins a.Zone [("first", .int z.first), ("end", .int z.last), ("word", .str z.word), ("place", placeD z.place), ("weight", pr z.weight)]
theorem ret_lst {K : PySem.W.Frag} {Q : KD} {p : Addr} {xs : List D} {G : GD} (hp : G p = none) (q : Q (.lst xs) G) : retD K Q (.ref p) (put G p (.lst xs)) :=
  ⟨_, _, Can.lst put_same, by rw [del_put hp]; exact q⟩
theorem putKD_new {kvs : List (Key × D)} {k : Key} {v : D} (h : ∀ kv ∈ kvs, kv.1 ≠ k) : putKD kvs k v = kvs ++ [(k, v)] := by
  unfold putKD
  have e : (kvs.any fun kv => decide (kv.1 = k)) = false := by
    rw [List.any_eq_false]
    intro kv hkv
    simpa using h kv hkv
  rw [e]
  rfl
theorem kvs_keys {ts : Terms} {n : Str} (h : n ∉ ts.map (·.1)) : ∀ kv ∈ kvsD ts, kv.1 ≠ (.inr n : Key) := by
  intro kv hkv e
  obtain ⟨x, hx, rfl⟩ := List.mem_map.mp hkv
  have e : (Sum.inr x.1 : Key) = .inr n := e
  injection e with e
  exact h (List.mem_map.mpr ⟨x, hx, e⟩)
theorem kvs_snoc (ts : Terms) (n : Str) (t : Term) : kvsD ts ++ [((.inr n : Key), termD t)] = kvsD (ts ++ [(n, t)]) := by
  unfold kvsD
  rw [List.map_append]
  rfl
/-- a dict comprehension over terms -/
theorem compK_terms {g : TDG} {tk tv : TDE} {vs : List Nat} {s : SD} {G : GD} (f : Str × Term → Term) : ∀ {ts done : Terms} {Q : List (Key × D) → GD → Prop},
    (∀ x ∈ ts, ∀ R : D → D → GD → Prop, R (.str x.1) (termD (f x)) G → g (.tup [.str x.1, termD x.2]) (wipeD s vs) G fun s2 G2 => tk s2 G2 (fun y G3 => tv s2 G3 (fun z G4 => R y z G4) noX) noX) →
    ((done ++ ts).map (·.1)).Nodup → done.length + ts.length ≤ sizeLine → Q (kvsD (done ++ ts.map fun x => (x.1, f x))) G → compK g tk tv vs s ((kvsD ts).map fun kv => .tup [dOf kv.1, kv.2]) (kvsD done) G Q
  | [], done, Q, _, _, _, q => by
    show Q (kvsD done) G
    simpa using q
  | x :: ts, done, Q, h, nd, hl, q => by
    rw [List.length_cons] at hl
    have nd2 : (((done ++ [(x.1, f x)]) ++ ts).map (·.1)).Nodup := by simpa using nd
    have hx : x.1 ∉ done.map (·.1) := fun z => by
      rw [List.map_append, List.nodup_append] at nd
      exact nd.2.2 _ z _ (by simp) rfl
    exact h x List.mem_cons_self (fun y z G4 => ∃ k, keyD y = some k ∧ (kvsD done).length < sizeLine ∧ compK g tk tv vs s ((kvsD ts).map fun kv => .tup [dOf kv.1, kv.2]) (putKD (kvsD done) k z) G4 Q)
      ⟨.inr x.1, rfl, by unfold kvsD; rw [List.length_map]; omega, by
        rw [putKD_new (kvs_keys hx), kvs_snoc]
        exact compK_terms f (fun y hy => h y (List.mem_cons_of_mem _ hy)) nd2 (by simp; omega) (by simpa using q)⟩
section
variable {P : Program} {w : World} {K : PySem.W.Frag} {mg : Str → Option Value} {base : Heap} {a : Ad} {f : Addr} {fd : FuncData}
def sp_Part_init : SpD := fun ds G Q _ => ∃ t f e ts, ds = [.ref t, f, e, ts] ∧ G t = some (.ins a.Part []) ∧ Q .non (put G t (.ins a.Part [("first", f), ("end", e), ("terms", ts)]))
theorem ok_Part_init (T : Txt K w mg a) (Fu : FunD K "__init__" "Part.__init__" (defArgs s_Part___init__) (defBody s_Part___init__) (defScope s_Part___init__) [] [] f fd) : FnD P w K mg base 1 f fd ["self", "first", "end", "terms"] (sp_Part_init (a := a)) := by
  refine fun_ok Fu sc_Part___init__ ?_ (fun cdv A outer s H E hr => (dss_cons (ds_fld T.clPart T.nPart_first (dv 0) (dv 1))
      (dss_cons (ds_fld T.clPart T.nPart_end (dv 0) (dv 2))
      (dss_one (ds_fld T.clPart T.nPart_terms (dv 0) (dv 3)))))) ?_
  · rintro ds G Q E ⟨t, f, e, ts, rfl, _⟩; rfl
  · rintro ds G Q E ⟨t, f, e, ts, rfl, ht, q⟩
    refine ⟨t, [], rfl, ht, by decide, t, _, rfl, put_same, by show 1 < 1000; decide, t, _, rfl, put_same, by show 2 < 1000; decide, ret ?_⟩
    rw [put_put, put_put]
    exact q
def sp_Zone_init : SpD := fun ds G Q _ => ∃ t d1 d2 d3 d4 d5, ds = [.ref t, d1, d2, d3, d4, d5] ∧ G t = some (.ins a.Zone []) ∧ Q .non (put G t (.ins a.Zone [("first", d1), ("end", d2), ("word", d3), ("place", d4), ("weight", d5)]))
theorem ok_Zone_init (T : Txt K w mg a) (Fu : FunD K "__init__" "Zone.__init__" (defArgs s_Zone___init__) (defBody s_Zone___init__) (defScope s_Zone___init__) [] [] f fd) : FnD P w K mg base 1 f fd ["self", "first", "end", "word", "place", "weight"] (sp_Zone_init (a := a)) := by
  refine fun_ok Fu sc_Zone___init__ ?_ (fun cdv A outer s H E hr => (dss_cons (ds_fld T.clZone T.nZone_first (dv 0) (dv 1))
      (dss_cons (ds_fld T.clZone T.nZone_end (dv 0) (dv 2))
      (dss_cons (ds_fld T.clZone T.nZone_word (dv 0) (dv 3))
      (dss_cons (ds_fld T.clZone T.nZone_place (dv 0) (dv 4))
      (dss_one (ds_fld T.clZone T.nZone_weight (dv 0) (dv 5)))))))) ?_
  · rintro ds G Q E ⟨t, d1, d2, d3, d4, d5, rfl, _⟩; rfl
  · rintro ds G Q E ⟨t, d1, d2, d3, d4, d5, rfl, ht, q⟩
    refine ⟨t, [], rfl, ht, by decide, t, _, rfl, put_same, by show 1 < 1000; decide, t, _, rfl, put_same, by show 2 < 1000; decide, t, _, rfl, put_same, by show 3 < 1000; decide, t, _, rfl, put_same, by show 4 < 1000; decide, ret ?_⟩
    rw [put_put, put_put, put_put, put_put]
    exact q
def sp_Part_cut : SpD := fun ds G Q _ => ∃ p f e, ds = [partD a p, .int f, .int e] ∧ Q (partD a (cutM p f e)) G
theorem ok_Part_cut (T : Txt K w mg a) (k_Part : KnowsC P w K mg base a.Part 1 [] (sp_Part_init (a := a))) (Fu : FunD K "cut" "Part.cut" (defArgs s_Part_cut) (defBody s_Part_cut) (defScope s_Part_cut) [] [] f fd) : FnD P w K mg base 3 f fd ["self", "first", "end"] (sp_Part_cut (a := a)) := by
  refine fun_ok Fu sc_Part_cut ?_ (fun cdv A outer s H E hr => (dss_one (ds_ret (de_make (K := K) k_Part T.gPart (hr.mono (by decide)) tk0 (da_cons (de_callB (max_okD rfl) T.max (by decide +kernel) (da_cons (de_fld T.clPart T.nPart_first (dv 0)) (da_cons (dv 1) da_nil))) (da_cons (de_callB (min_okD rfl) T.min (by decide +kernel) (da_cons (de_fld T.clPart T.nPart_end (dv 0)) (da_cons (dv 2) da_nil))) (da_cons (de_fld T.clPart T.nPart_terms (dv 0)) da_nil))))))) ?_
  · rintro ds G Q E ⟨p, f, e, rfl, _⟩; rfl
  · rintro ds G Q E ⟨p, f, e, rfl, q⟩
    refine ⟨_, .int p.first, rfl, rfl, _, .int p.last, rfl, rfl, _, termsD p.terms, rfl, rfl, fun x hx => ⟨x, _, _, _, rfl, put_same, rfl, ret_made hx (ret ?_)⟩⟩
    have e1 : (if f > p.first then f else p.first) = max p.first f := by split <;> omega
    have e2 : (if e < p.last then e else p.last) = min p.last e := by split <;> omega
    show Q (.ins a.Part [("first", .int (if f > p.first then f else p.first)), ("end", .int (if e < p.last then e else p.last)), ("terms", termsD p.terms)]) G
    rw [e1, e2]
    exact q
def sp_Part_at : SpD := fun ds G Q _ => ∃ p t, ds = [partD a p, .int t] ∧ (p.terms.map (·.1)).Nodup ∧ p.terms.length ≤ sizeLine ∧ Q (termsD (atM p t)) G
theorem ok_Part_at (T : Txt K w mg a) (Fu : FunD K "at" "Part.at" (defArgs s_Part_at) (defBody s_Part_at) (defScope s_Part_at) [] [] f fd) : FnD P w K mg base 1 f fd ["self", "tick"] (sp_Part_at (a := a)) := by
  refine fun_ok Fu sc_Part_at ?_ (fun cdv A outer s H E hr => (dss_one (ds_ret (de_dc rfl sc_Part_at.nd (BlkDc.mk (own := [("name", 2), ("place", 3), ("weight", 4)]) (di_items (de_fld T.clPart T.nPart_terms (dv 0))) (blkOk_by (N := N_Part_at) (sc := defScope s_Part_at) (own := [("name", 2), ("place", 3), ("weight", 4)]) (by decide +kernel)) (fun _ _ _ _ _ => (dgw_tup (n := 2) rfl (dgsw_cons (dgw_name (i := 2) sc_Part_at.nd rfl (Or.inl rfl) (by decide)) (dgsw_cons (dgw_tup (n := 2) rfl (dgsw_cons (dgw_name (i := 3) sc_Part_at.nd rfl (Or.inl rfl) (by decide)) (dgsw_cons (dgw_name (i := 4) sc_Part_at.nd rfl (Or.inl rfl) (by decide)) dgsw_nil))) dgsw_nil)))) (fun _ _ _ _ _ => (dv 2)) (fun _ _ _ _ _ => (de_tup (da_cons (de_ifExp (dt_cmp isN_ok (dv 3) de_non (nomark _)) (dv 1) (dv 3)) (da_cons (dv 4) da_nil))))))))) ?_
  · rintro ds G Q E ⟨p, t, rfl, _⟩; rfl
  · rintro ds G Q E ⟨p, t, rfl, nd, hl, q⟩
    refine ⟨_, _, rfl, rfl, _, rfl, compK_terms (done := []) (fun x => ⟨some (x.2.place.getD t), x.2.weight⟩) (fun x hx R r => ⟨rfl, rfl, ?_⟩) (by simpa using nd) (by simpa using hl) (ret q)⟩
    obtain ⟨n, ⟨pl, wt⟩⟩ := x
    cases pl with
    | none => exact ⟨by show 2 ≤ sizeLine; decide, r⟩
    | some i => exact ⟨by show 2 ≤ sizeLine; decide, r⟩
def sp_single : SpD := fun ds G Q _ => ∃ p, ds = [partD a p] ∧ (p.terms.map (·.1)).Nodup ∧ p.terms.length ≤ sizeLine ∧ Q (partD a (singleM p)) G
theorem ok_single (T : Txt K w mg a) (k_Part : KnowsC P w K mg base a.Part 1 [] (sp_Part_init (a := a))) (k_Part_at : KnowsM P w K mg base a.Part "at" 1 [] (sp_Part_at (a := a))) (Fu : FunD K "single" "single" (defArgs s_single) (defBody s_single) (defScope s_single) [] [] f fd) :
    FnD P w K mg base 3 f fd ["part"] (sp_single (a := a)) := by
  refine fun_ok Fu sc_single ?_ (fun cdv A outer s H E hr => (dss_one (ds_ret (de_ifExp (dt_cmp (eq_ok hr.units) (de_sub (de_fld T.clPart T.nPart_end (dv 0)) (de_fld T.clPart T.nPart_first (dv 0))) de_int (nomark _)) (de_make (K := K) k_Part T.gPart (hr.mono (by decide)) tk0 (da_cons (de_fld T.clPart T.nPart_first (dv 0)) (da_cons (de_fld T.clPart T.nPart_end (dv 0)) (da_cons (de_meth T.clPart k_Part_at (hr.mono (by decide)) tk0 (dv 0) (da_cons (de_fld T.clPart T.nPart_first (dv 0)) da_nil)) da_nil)))) (dv 0))))) ?_
  · rintro ds G Q E ⟨p, rfl, _⟩; rfl
  · rintro ds G Q E ⟨p, rfl, nd, hl, q⟩
    refine ⟨_, .int p.last, rfl, rfl, _, .int p.first, rfl, rfl, ite2 (fun c => ?_) (fun c => ret ?_)⟩
    · have c : p.last - p.first = 1 := of_decide_eq_true c
      refine ⟨_, .int p.first, rfl, rfl, _, .int p.last, rfl, rfl, _, rfl, rfl, _, .int p.first, rfl, rfl, p, p.first, rfl, nd, hl, fun x hx => ⟨x, _, _, _, rfl, put_same, rfl, ret_made hx (ret ?_)⟩⟩
      unfold singleM at q
      rw [if_pos c] at q
      exact q
    · have c : ¬ p.last - p.first = 1 := fun z => c (decide_eq_true z)
      unfold singleM at q
      rw [if_neg c] at q
      exact q
end
end TP
end
section
set_option maxRecDepth 100000
set_option maxHeartbeats 1000000
/-! forms.py: zones of a pass. -/
namespace TP
open PySem PySem.Spec PyProof.Rows DL
open L2 hiding Room FnOk takes0
theorem ints_zero (lo : Int) : intsFrom lo 0 = [] := rfl
section
variable {P : Program} {w : World} {K : PySem.W.Frag} {mg : Str → Option Value} {base : Heap} {a : Ad} {f : Addr} {fd : FuncData}
def sp_glide_zones : SpD := fun ds G Q _ => ∃ p t e, ds = [Pass.d p, .int t, .int e] ∧ 0 ≤ p.glide ∧ p.glide ≤ 100 ∧ Q (.lst ((glideM p t e).map (zoneD a))) G
theorem ok_glide_zones (T : Txt K w mg a) (k_lowest : Knows P w K mg base "lowest" 2 [] sp_lowest) (k_Zone : KnowsC P w K mg base a.Zone 1 [] (sp_Zone_init (a := a)))
    (Fu : FunD K "glide_zones" "glide_zones" (defArgs s_glide_zones) (defBody s_glide_zones) (defScope s_glide_zones) [] [] f fd) : FnD P w K mg base 3 f fd ["one_pass", "tick", "end"] (sp_glide_zones (a := a)) := by
  refine fun_ok Fu sc_glide_zones ?_ (fun cdv A outer s H E hr => (dss_cons (ds_asg (dv 0) (dg_tup (n := 7) rfl (dgs_cons (dg_name (i := 5) sc_glide_zones.nd rfl (Or.inl rfl)) (dgs_cons (dg_name (i := 6) sc_glide_zones.nd rfl (Or.inl rfl)) (dgs_cons (dg_name (i := 7) sc_glide_zones.nd rfl (Or.inl rfl)) (dgs_cons (dg_name (i := 8) sc_glide_zones.nd rfl (Or.inl rfl)) (dgs_cons (dg_name (i := 9) sc_glide_zones.nd rfl (Or.inl rfl)) (dgs_cons (dg_name (i := 10) sc_glide_zones.nd rfl (Or.inl rfl)) (dgs_cons (dg_name (i := 11) sc_glide_zones.nd rfl (Or.inl rfl)) dgs_nil)))))))))
      (dss_cons (ds_set (i := 3) sc_glide_zones.nd rfl (Or.inl rfl) (de_lstM da_nil))
      (dss_cons (ds_for po0 rfl (di_range2 T.range (da_cons de_int (da_cons (de_add (dv 10) de_int) da_nil))) (dg_name (i := 4) sc_glide_zones.nd rfl (Or.inl rfl)) (dss_one (ds_if (dt_cmp lt_ok (de_add (dv 1) (dv 4)) (dv 2) (nomark _)) (dss_cons (ds_set (i := 12) sc_glide_zones.nd rfl (Or.inl rfl) (de_call k_lowest (hr.mono (by decide)) tk0 (da_cons (de_sub (de_add (dv 10) de_int) (dv 4)) (da_cons (de_add (dv 10) de_int) da_nil))))
      (dss_one (ds_expr (de_append (dv 3) (da_cons (de_make (K := K) k_Zone T.gZone (hr.mono (by decide)) tk0 (da_cons (de_add (dv 1) (dv 4)) (da_cons (de_add (de_add (dv 1) (dv 4)) de_int) (da_cons (dv 6) (da_cons (dv 1) (da_cons (dv 12) da_nil)))))) da_nil))))) dss_nil)))
      (dss_one (ds_ret (dv 3))))))) ?_
  · rintro ds G Q E ⟨p, t, e, rfl, _⟩; rfl
  · rintro ds G Q E ⟨p, t, e, rfl, h0, h1, q⟩
    refine ⟨rfl, by decide, fun pf hp => ⟨⟨by decide, by decide, by omega, by omega⟩, ?_⟩⟩
    have en : (p.glide + 1 - 1).toNat = p.glide.toNat := by omega
    show loopD _ _ (intsFrom 1 (p.glide + 1 - 1).toNat) _ _ _
    rw [en]
    refine loop_inv (fun rest s G' => ∃ (done : List Zone) (lo : Int) (k : Nat) (o4 o12 : Option D), done ++ glideFrom p t e lo k = glideM p t e ∧ done.length + k ≤ 100 ∧ 1 ≤ lo ∧ lo + k = p.glide + 1 ∧ rest = intsFrom lo k ∧
      s = [some p.d, some (.int t), some (.int e), some (.ref pf), o4, some (.str p.name), some (.str p.mode), some (.int p.first), some (.int p.last), some (.tup (p.touches.map pr)), some (.int p.glide), some (.str p.tail), o12] ∧
      G' = put G pf (.lst (done.map (zoneD a)))) ?_ ?_ ⟨[], 1, p.glide.toNat, none, none, rfl, by simp; omega, by decide, by omega, rfl, rfl, rfl⟩
    · rintro d ds s G' ⟨done, lo, k, o4, o12, hd, hl, h1, hk, hr, rfl, rfl⟩ R hR
      cases k with
      | zero => cases hr
      | succ k =>
        cases hr
        have eg : glideFrom p t e lo (k + 1) = (if t + lo < e then [glideZ p t lo] else []) ++ glideFrom p t e (lo + 1) k := rfl
        refine ite2 (fun c => ?_) (fun c => ?_)
        · have c : t + lo < e := of_decide_eq_true c
          refine ⟨p.glide + 1 - lo, p.glide + 1, rfl, by omega, by unfold small; omega, pf, _, rfl, put_same, fun x hx => ⟨x, _, _, _, _, _, rfl, put_same, rfl, ret_made hx ⟨_, put_same, ?_, ?_⟩⟩⟩
          · rw [List.length_map]
            exact Nat.lt_of_lt_of_le (by omega : _ < 200) (by decide)
          · refine hR _ _ ⟨done ++ [glideZ p t lo], lo + 1, k, _, _, ?_, ?_, by omega, by omega, rfl, rfl, ?_⟩
            · rw [← hd, eg, if_pos c]
              simp
            · rw [List.length_append]
              simp only [List.length_cons, List.length_nil]
              omega
            · rw [put_put, List.map_append]
              rfl
        · have c : ¬ t + lo < e := fun z => c (decide_eq_true z)
          refine hR _ _ ⟨done, lo + 1, k, _, _, ?_, by omega, by omega, by omega, rfl, rfl, rfl⟩
          rw [← hd, eg, if_neg c]
          rfl
    · rintro s G' ⟨done, lo, k, o4, o12, hd, hl, h1, hk, hr, rfl, rfl⟩
      cases k with
      | succ k => cases hr
      | zero =>
        refine ret_lst hp ?_
        have e : done = glideM p t e := by rw [← hd]; simp [glideFrom]
        rw [e]
        exact q
def sp_zones_of : SpD := fun ds G Q _ => ∃ p n, ds = [Pass.d p, .int n] ∧ RightP n p ∧ Q (.lst ((zonesM p n).map (zoneD a))) G
theorem pairs_zip : ∀ (ts : List (Int × Int)) (es : List Int), pairsD (ts.map pr) (es.map D.int) = (ts.zip es).map fun x => D.tup [pr x.1, .int x.2]
  | [], _ => rfl
  | _ :: _, [] => rfl
  | t :: ts, e :: es => by
    show D.tup [pr t, .int e] :: pairsD (ts.map pr) (es.map D.int) = _
    rw [pairs_zip ts es]
    rfl
/-- ahead of the ends of the touches -/
def J_zones1 : TDS := fun Dn s G => ∃ p n, RightP n p ∧ s = [some (Pass.d p), some (.int n), some (.int (endM p n)), none, none, some (.str p.name), some (.str p.mode), some (.int p.first), some (.int p.last), some (.tup (p.touches.map pr)), some (.int p.glide), some (.str p.tail), none, none, none] ∧
  ∀ G', Less G G' → Dn.rt (.lst ((zonesM p n).map (zoneD a))) G'
/-- ahead of the loop over the touches -/
def J_zones2 : TDS := fun Dn s G => ∃ p n pf G0, RightP n p ∧ s = [some (Pass.d p), some (.int n), some (.int (endM p n)), some (.lst ((endsM p n).map D.int)), some (.ref pf), some (.str p.name), some (.str p.mode), some (.int p.first), some (.int p.last), some (.tup (p.touches.map pr)), some (.int p.glide), some (.str p.tail), none, none, none] ∧
  G0 pf = none ∧ G = put G0 pf (.lst ((freezeM p n).map (zoneD a))) ∧ ∀ G', Less G0 G' → Dn.rt (.lst ((zonesM p n).map (zoneD a))) G'
theorem ok_zones_of (T : Txt K w mg a) (k_Zone : KnowsC P w K mg base a.Zone 1 [] (sp_Zone_init (a := a))) (k_glide_zones : Knows P w K mg base "glide_zones" 3 [] (sp_glide_zones (a := a)))
    (Fu : FunD K "zones_of" "zones_of" (defArgs s_zones_of) (defBody s_zones_of) (defScope s_zones_of) [] [] f fd) : FnD P w K mg base 5 f fd ["one_pass", "length"] (sp_zones_of (a := a)) := by
  refine fun_ok Fu sc_zones_of ?_ (fun cdv A outer s H E hr => (dss_cons (ds_asg (dv 0) (dg_tup (n := 7) rfl (dgs_cons (dg_name (i := 5) sc_zones_of.nd rfl (Or.inl rfl)) (dgs_cons (dg_name (i := 6) sc_zones_of.nd rfl (Or.inl rfl)) (dgs_cons (dg_name (i := 7) sc_zones_of.nd rfl (Or.inl rfl)) (dgs_cons (dg_name (i := 8) sc_zones_of.nd rfl (Or.inl rfl)) (dgs_cons (dg_name (i := 9) sc_zones_of.nd rfl (Or.inl rfl)) (dgs_cons (dg_name (i := 10) sc_zones_of.nd rfl (Or.inl rfl)) (dgs_cons (dg_name (i := 11) sc_zones_of.nd rfl (Or.inl rfl)) dgs_nil)))))))))
      (dss_cons (ds_set (i := 2) sc_zones_of.nd rfl (Or.inl rfl) (de_ifExp (dt_cmp (eq_ok hr.units) (dv 11) de_str (nomark _)) (dv 8) (dv 1)))
      (dss_to (J_zones1 (a := a)) (dss_cons (ds_set (i := 3) sc_zones_of.nd rfl (Or.inl rfl) (de_lst (da_star (de_lc rfl sc_zones_of.nd (BlkD.mk (own := [("touch", 12)]) (di_seq (de_slice (dv 9) (do_some de_int) do_none)) (blkOk_by (N := N_zones_of) (sc := defScope s_zones_of) (own := [("touch", 12)]) (by decide +kernel)) (fun _ _ _ _ _ => (dgw_name (i := 12) sc_zones_of.nd rfl (Or.inl rfl) (by decide))) (fun _ _ _ _ _ => dts_nil) (fun _ _ _ _ _ => (de_ix (dv 12) de_int)))) (da_cons (dv 2) da_nil))))
      (dss_cons (ds_set (i := 4) sc_zones_of.nd rfl (Or.inl rfl) (de_lstM da_nil))
      (dss_cons (ds_if (dt_cmp (eq_ok hr.units) (dv 6) de_str (nomark _)) (dss_one (ds_expr (de_append (dv 4) (da_cons (de_make (K := K) k_Zone T.gZone (hr.mono (by decide)) tk0 (da_cons (dv 7) (da_cons (de_ifExp (dt_cmp gt_ok (de_callB len_okD T.len (by decide +kernel) (da_cons (dv 9) da_nil)) de_int (nomark _)) (de_ix (de_ix (dv 9) de_int) de_int) (dv 2)) (da_cons de_str (da_cons de_non (da_cons (de_const T.cONE) da_nil)))))) da_nil)))) dss_nil)
      (dss_to (J_zones2 (a := a)) (dss_cons (ds_for po0 rfl (di_zip T.zip (da_cons (dv 9) (da_cons (dv 3) da_nil))) (dg_tup (n := 2) rfl (dgs_cons (dg_name (i := 12) sc_zones_of.nd rfl (Or.inl rfl)) (dgs_cons (dg_name (i := 13) sc_zones_of.nd rfl (Or.inl rfl)) dgs_nil))) (dss_cons (ds_expr (de_append (dv 4) (da_cons (de_make (K := K) k_Zone T.gZone (hr.mono (by decide)) tk0 (da_cons (de_ix (dv 12) de_int) (da_cons (de_ix (dv 12) de_int) (da_cons (de_ifExp (dt_cmp (eq_ok hr.units) (dv 6) de_str (nomark _)) de_str de_str) (da_cons de_non (da_cons (de_const T.cONE) da_nil)))))) da_nil)))
      (dss_one (ds_if (dt_cmp in_ok (dv 6) (de_tup (da_cons de_str (da_cons de_str da_nil))) (by rfl)) (dss_one (ds_expr (de_append (dv 4) (da_cons (de_make (K := K) k_Zone T.gZone (hr.mono (by decide)) tk0 (da_cons (de_ix (dv 12) de_int) (da_cons (dv 13) (da_cons de_str (da_cons (de_sub (de_ix (dv 12) de_int) de_int) (da_cons (de_const T.cONE) da_nil)))))) da_nil)))) (dss_one (ds_expr (de_extend (dv 4) (da_cons (de_call k_glide_zones (hr.mono (by decide)) tk0 (da_cons (dv 0) (da_cons (de_sub (de_ix (dv 12) de_int) de_int) (da_cons (dv 13) da_nil)))) da_nil))))))))
      (dss_one (ds_gh (K := K) (ds_ret (de_lc rfl sc_zones_of.nd (BlkD.mk (own := [("zone", 14)]) (di_seq (dv 4)) (blkOk_by (N := N_zones_of) (sc := defScope s_zones_of) (own := [("zone", 14)]) (by decide +kernel)) (fun _ _ _ _ _ => (dgw_name (i := 14) sc_zones_of.nd rfl (Or.inl rfl) (by decide))) (fun _ _ _ _ _ => (dts_one (dt_cmp lt_ok (de_fld T.clZone T.nZone_first (dv 14)) (de_fld T.clZone T.nZone_end (dv 14)) (nomark _)))) (fun _ _ _ _ _ => (dv 14)))))))) ?_)))) ?_)))) ?_
  · rintro ds G Q E ⟨p, n, rfl, _⟩; rfl
  · rintro Dn s G ⟨p, n, pf, G0, hp, rfl, hpf, rfl, q⟩
    have few := hp.few
    show loopD _ _ (pairsD (p.touches.map pr) ((endsM p n).map D.int)) _ _ _
    rw [pairs_zip]
    refine loop_inv (fun rest s G' => ∃ (done : List Zone) (left : List ((Int × Int) × Int)) (o12 o13 : Option D), done ++ (left.flatMap fun x => touchM p x.1 x.2) = zonesAll p n ∧ rest = left.map (fun x => D.tup [pr x.1, .int x.2]) ∧
      s = [some (Pass.d p), some (.int n), some (.int (endM p n)), some (.lst ((endsM p n).map D.int)), some (.ref pf), some (.str p.name), some (.str p.mode), some (.int p.first), some (.int p.last), some (.tup (p.touches.map pr)), some (.int p.glide), some (.str p.tail), o12, o13, none] ∧
      G' = put G0 pf (.lst (done.map (zoneD a)))) ?_ ?_ ⟨freezeM p n, p.touches.zip (endsM p n), none, none, rfl, rfl, rfl, rfl⟩
    · rintro d ds s G' ⟨done, left, o12, o13, hd, hr, rfl, rfl⟩ R hR
      cases left with
      | nil => cases hr
      | cons u left =>
        cases hr
        obtain ⟨t, l⟩ := u
        have hal := all_few hp
        have hl0 : done.length + (touchM p t l).length ≤ 607 := by
          rw [← hd] at hal
          simp only [List.flatMap_cons, List.length_append] at hal
          omega
        have hz : done.length < 700 := by omega
        have ett : touchM p t l = ⟨t.1, t.2, if p.mode = "trim" then "trim" else "set", none, one⟩ :: (if p.mode ∈ (["write", "latch"] : List Str) then [⟨t.2, l, "set", some (t.2 - 1), one⟩] else glideM p (t.2 - 1) l) := rfl
        have fin : ∀ o1 o2 zs, zs = touchM p t l → R [some (Pass.d p), some (.int n), some (.int (endM p n)), some (.lst ((endsM p n).map D.int)), some (.ref pf), some (.str p.name), some (.str p.mode), some (.int p.first), some (.int p.last), some (.tup (p.touches.map pr)), some (.int p.glide), some (.str p.tail), o1, o2, none] (put G0 pf (.lst ((done ++ zs).map (zoneD a)))) := fun o1 o2 zs e => by
          subst e
          exact hR _ _ ⟨done ++ touchM p t l, left, o1, o2, by rw [← hd]; simp, rfl, rfl, rfl⟩
        have hsz : ∀ k : Nat, k < 2000 → k < sizeLine := fun k hk => Nat.lt_of_lt_of_le hk (by decide)
        refine ⟨rfl, pf, _, rfl, put_same, _, .int t.1, rfl, rfl, _, .int t.2, rfl, rfl, ?_⟩
        refine ite2 (fun c => fun x hx => ⟨x, _, _, _, _, _, rfl, put_same, rfl, ret_made hx ⟨_, put_same, ?_, ?_⟩⟩) (fun c => fun x hx => ⟨x, _, _, _, _, _, rfl, put_same, rfl, ret_made hx ⟨_, put_same, ?_, ?_⟩⟩)
        · rw [List.length_map]; exact hsz _ (by omega)
        · have c : p.mode = "trim" := of_decide_eq_true c
          rw [put_put]
          have nm : p.mode ∉ (["write", "latch"] : List Str) := by rw [c]; decide +kernel
          refine ⟨by decide, in_names (ns := ["write", "latch"]) (fun _ h => by cases h) rfl (ite_ff' (fun z => nm (of_decide_eq_true z)) ⟨pf, _, rfl, put_same, _, .int t.2, rfl, rfl, p, t.2 - 1, l, rfl, hp.glide.1, hp.glide.2, _, _, put_same, rfl, ?_, ?_⟩)⟩
          · rw [List.length_append, List.length_map, List.length_map]
            rw [ett, if_neg nm] at hl0
            simp only [List.length_cons] at hl0
            exact Nat.le_of_lt (hsz _ (by simp only [List.length_cons, List.length_nil]; omega))
          · rw [put_put, List.append_assoc]
            have := fin (some (pr t)) (some (.int l)) (⟨t.1, t.2, "trim", none, one⟩ :: glideM p (t.2 - 1) l) (by rw [ett, if_neg nm, if_pos c])
            rw [List.map_append] at this
            exact this
        · rw [List.length_map]; exact hsz _ (by omega)
        · have c : ¬ p.mode = "trim" := fun z => c (decide_eq_true z)
          rw [put_put]
          refine ⟨by decide, in_names (ns := ["write", "latch"]) (fun _ h => by cases h) rfl (ite2 (fun c2 => ?_) (fun c2 => ?_))⟩
          · have c2 : p.mode ∈ (["write", "latch"] : List Str) := of_decide_eq_true c2
            refine ⟨pf, _, rfl, put_same, _, .int t.2, rfl, rfl, _, .int t.2, rfl, rfl, fun x hx => ⟨x, _, _, _, _, _, rfl, put_same, rfl, ret_made hx ⟨_, put_same, ?_, ?_⟩⟩⟩
            · rw [List.length_append, List.length_map]
              exact hsz _ (by simp only [List.length_cons, List.length_nil]; omega)
            · rw [put_put, List.append_assoc]
              have := fin (some (pr t)) (some (.int l)) [⟨t.1, t.2, "set", none, one⟩, ⟨t.2, l, "set", some (t.2 - 1), one⟩] (by rw [ett, if_pos c2, if_neg c])
              rw [List.map_append] at this
              exact this
          · have nm : p.mode ∉ (["write", "latch"] : List Str) := fun z => c2 (decide_eq_true z)
            refine ⟨pf, _, rfl, put_same, _, .int t.2, rfl, rfl, p, t.2 - 1, l, rfl, hp.glide.1, hp.glide.2, _, _, put_same, rfl, ?_, ?_⟩
            · rw [List.length_append, List.length_map, List.length_map]
              rw [ett, if_neg nm] at hl0
              simp only [List.length_cons] at hl0
              exact Nat.le_of_lt (hsz _ (by simp only [List.length_cons, List.length_nil]; omega))
            · rw [put_put, List.append_assoc]
              have := fin (some (pr t)) (some (.int l)) (⟨t.1, t.2, "set", none, one⟩ :: glideM p (t.2 - 1) l) (by rw [ett, if_neg nm, if_neg c])
              rw [List.map_append] at this
              exact this
    · rintro s G' ⟨done, left, o12, o13, hd, hr, rfl, rfl⟩
      cases left with
      | cons u left => cases hr
      | nil =>
        have e : done = zonesAll p n := by rw [← hd]; simp
        subst e
        refine ⟨_, _, CanS.lst (i := 4) rfl put_same, _, rfl, ?_⟩
        rw [del_put hpf]
        refine comp1If (fun x => match x with
          | .ins _ [(_, .int i), (_, .int j), _, _, _] => decide (i < j)
          | _ => false) id (fun x hx R N r n => ?_) ?_ ?_
        · obtain ⟨z, _, rfl⟩ := List.mem_map.mp hx
          exact ⟨_, .int z.first, rfl, rfl, _, .int z.last, rfl, rfl, ite2 (fun c => r c) (fun c => n (by simpa using c))⟩
        · rw [List.length_nil, List.length_map, Nat.zero_add]
          exact Nat.le_trans (all_few hp) (by decide)
        · rw [List.nil_append, List.map_id]
          have e : ((zonesAll p n).map (zoneD a)).filter (fun x => match x with
            | .ins _ [(_, .int i), (_, .int j), _, _, _] => decide (i < j)
            | _ => false) = (zonesM p n).map (zoneD a) := by
            rw [List.filter_map]
            rfl
          rw [e]
          exact q G0 (.refl G0)
  · rintro Dn s G ⟨p, n, hp, rfl, q⟩
    have few := hp.few
    refine ⟨_, rfl, comp1 (fun x => match x with
      | .tup (y :: _) => y
      | _ => .non) (fun x hx R r => ?_) ?_ ?_⟩
    · have hx : x ∈ DL.cutD (p.touches.map pr) (some 1) none := hx
      rw [cut_tail] at hx
      obtain ⟨t, _, rfl⟩ := List.mem_map.mp (List.mem_of_mem_tail hx)
      exact ⟨_, .int t.1, rfl, rfl, r⟩
    · show (DL.cutD (p.touches.map pr) (some 1) none).length ≤ _
      rw [cut_tail, List.length_tail, List.length_map]
      exact Nat.le_trans (by omega : _ ≤ 6) (by decide)
    · have ee : (DL.cutD (p.touches.map pr) (some 1) none).map (fun x => match x with
        | .tup (y :: _) => y
        | _ => D.non) ++ [.int (endM p n)] = (endsM p n).map D.int := by
        rw [cut_tail, ← List.map_tail, List.map_map]
        unfold endsM
        rw [List.map_append, List.map_map]
        rfl
      have le : (endsM p n).length ≤ 7 := by
        unfold endsM
        simp only [List.length_append, List.length_map, List.length_tail, List.length_cons, List.length_nil]
        omega
      refine ⟨?_, by decide, fun pf hpf => ?_⟩
      · show ((DL.cutD (p.touches.map pr) (some 1) none).map _ ++ [D.int (endM p n)]).length ≤ sizeLine
        rw [ee, List.length_map]
        exact Nat.le_trans le (by decide)
      · have fin : ∀ F : List Zone, freezeM p n = F → J_zones2 (a := a) Dn [some (Pass.d p), some (.int n), some (.int (endM p n)), some (.lst ((DL.cutD (p.touches.map pr) (some 1) none).map (fun x => match x with
          | .tup (y :: _) => y
          | _ => D.non) ++ [.int (endM p n)])), some (.ref pf), some (.str p.name), some (.str p.mode), some (.int p.first), some (.int p.last), some (.tup (p.touches.map pr)), some (.int p.glide), some (.str p.tail), none, none, none] (put G pf (.lst (F.map (zoneD a)))) := fun F e => by
          subst e
          rw [ee]
          exact ⟨p, n, pf, G, hp, rfl, hpf, rfl, q⟩
        refine ite2 (fun c => ?_) (fun c => fin [] (if_neg (fun z => c (decide_eq_true z))))
        have c : p.mode = "write" := of_decide_eq_true c
        refine ⟨pf, _, rfl, put_same, _, rfl, ite2 (fun c2 => ?_) (fun c2 => ?_)⟩
        · have c2 : (0 : Int) < ((p.touches.map pr).length : Nat) := of_decide_eq_true c2
          cases ht : p.touches with
          | nil => rw [ht] at c2; simp at c2
          | cons t ts =>
            refine ⟨_, pr t, rfl, by rw [List.map_cons]; exact atI_nat (j := 0) rfl, _, .int t.1, rfl, atI_nat (j := 0) rfl, fun x hx => ⟨x, _, _, _, _, _, rfl, put_same, rfl, ret_made hx ⟨_, put_same, by decide, ?_⟩⟩⟩
            rw [put_put, ← ht]
            refine fin [⟨p.first, t.1, "freeze", none, one⟩] ?_
            unfold freezeM
            rw [if_pos c, ht]
        · have c2 : ¬ (0 : Int) < ((p.touches.map pr).length : Nat) := fun z => c2 (decide_eq_true z)
          have ht : p.touches = [] := by
            cases ht : p.touches with
            | nil => rfl
            | cons t ts => rw [ht] at c2; simp at c2
          refine fun x hx => ⟨x, _, _, _, _, _, rfl, put_same, rfl, ret_made hx ⟨_, put_same, by decide, ?_⟩⟩
          rw [put_put]
          refine fin [⟨p.first, endM p n, "freeze", none, one⟩] ?_
          unfold freezeM
          rw [if_pos c, ht]
  · rintro ds G Q E ⟨p, n, rfl, hp, q⟩
    refine ⟨rfl, ite2 (fun c => ⟨p, n, hp, ?_, fun G' l => retL l q⟩) (fun c => ⟨p, n, hp, ?_, fun G' l => retL l q⟩)⟩
    · have e : endM p n = p.last := if_pos (of_decide_eq_true c)
      rw [e]
      rfl
    · have e : endM p n = n := if_neg (fun z => c (decide_eq_true z))
      rw [e]
      rfl
end
end TP
end
section
set_option maxRecDepth 100000
set_option maxHeartbeats 1000000
set_option exponentiation.threshold 1000
/-! forms.py: parts found, and cut out. -/
namespace TP
open PySem PySem.Spec PyProof.Rows DL
open L2 hiding Room FnOk takes0
theorem spot_min {ps : List Piece} {t : Int} {k : Nat} {p : Piece} (h : ps[k]? = some p) (c : t < p.last) : spotM ps t ≤ k := by
  obtain ⟨hk, e⟩ := List.getElem?_eq_some_iff.mp h
  by_cases l : spotM ps t ≤ k
  · exact l
  · have := List.not_of_lt_findIdx (p := fun p : Piece => decide (t < p.last)) (xs := ps) (i := k) (by unfold spotM at l; omega)
    rw [e] at this
    simp at this
    omega
theorem spot_max {ps : List Piece} {x y t : Int} {k : Nat} {p : Piece} (hT : Tile x y ps) (h : ps[k]? = some p) (c : ¬ t < p.last) : k + 1 ≤ spotM ps t := by
  by_cases l : k + 1 ≤ spotM ps t
  · exact l
  · have hk := (List.getElem?_eq_some_iff.mp h).1
    have hs : spotM ps t < ps.length := by omega
    have g := List.findIdx_getElem (p := fun p : Piece => decide (t < p.last)) (xs := ps) (w := hs)
    have g : t < (ps[spotM ps t]).last := of_decide_eq_true g
    have := hT.sorted (List.getElem?_eq_getElem hs) h (by omega)
    omega
section
variable {P : Program} {w : World} {K : PySem.W.Frag} {mg : Str → Option Value} {base : Heap} {a : Ad} {f : Addr} {fd : FuncData}
def sp_spot_of : SpD := fun ds G Q _ => ∃ ps t x y, ds = [partsD a ps, .int t] ∧ Tile x y ps ∧ Q (.int (spotM ps t : Nat)) G
theorem ok_spot_of (T : Txt K w mg a) (Fu : FunD K "spot_of" "spot_of" (defArgs s_spot_of) (defBody s_spot_of) (defScope s_spot_of) [] [] f fd) : FnD P w K mg base 1 f fd ["parts", "tick"] (sp_spot_of (a := a)) := by
  refine fun_ok Fu sc_spot_of ?_ (fun cdv A outer s H E hr => (dss_cons (ds_par (i := 2) (j := 3) rfl sc_spot_of.nd rfl rfl (by decide) rfl rfl (da_cons de_int (da_cons (de_callB len_okD T.len (by decide +kernel) (da_cons (dv 0) da_nil)) da_nil)) (by rfl))
      (dss_cons (ds_while po0 (dt_cmp lt_ok (dv 2) (dv 3) (nomark _)) (dss_cons (ds_set (i := 4) sc_spot_of.nd rfl (Or.inl rfl) (de_fdiv (de_add (dv 2) (dv 3)) de_int))
      (dss_one (ds_if (dt_cmp gt_ok (de_fld T.clPart T.nPart_end (de_ix (dv 0) (dv 4))) (dv 1) (nomark _)) (dss_one (ds_set (i := 3) sc_spot_of.nd rfl (Or.inl rfl) (dv 4))) (dss_one (ds_set (i := 2) sc_spot_of.nd rfl (Or.inl rfl) (de_add (dv 4) de_int)))))))
      (dss_one (ds_ret (dv 2)))))) ?_
  · rintro ds G Q E ⟨ps, t, x, y, rfl, _⟩; rfl
  · rintro ds G Q E ⟨ps, t, x, y, rfl, hT, q⟩
    refine ⟨_, rfl, fun m s G' => G' = G ∧ ∃ (lo hi : Nat) (o : Option D), s = [some (partsD a ps), some (.int t), some (.int (lo : Int)), some (.int (hi : Int)), o] ∧ lo ≤ spotM ps t ∧ spotM ps t ≤ hi ∧ hi ≤ ps.length ∧ m = hi - lo, ⟨ps.length - 0, rfl, 0, ps.length, none, ?_, Nat.zero_le _, spot_le, Nat.le_refl _, rfl⟩, ?_⟩
    · show [some (partsD a ps), some (.int t), some (.int 0), some (.int (((ps.map (partD a)).length : Nat) : Int)), none] = _
      rw [List.length_map]
      rfl
    rintro m s G' ⟨rfl, lo, hi, o, rfl, h1, h2, h3, rfl⟩
    refine ite2 (fun c => ?_) (fun c => ?_)
    · have c : (lo : Int) < hi := of_decide_eq_true c
      refine ⟨CDivW.of (by decide) (by decide), ?_⟩
      have em : ((lo : Int) + hi) / 2 = (((lo + hi) / 2 : Nat) : Int) := by omega
      have hm : (lo + hi) / 2 < ps.length := by omega
      have hg := List.getElem?_eq_getElem hm
      rw [em]
      refine ⟨_, partD a ps[(lo + hi) / 2], rfl, atI_nat (by rw [List.getElem?_map, hg]; rfl), _, .int ps[(lo + hi) / 2].last, rfl, rfl, ite2 (fun c2 => ?_) (fun c2 => ?_)⟩
      · have c2 : t < ps[(lo + hi) / 2].last := of_decide_eq_true c2
        have := spot_min hg c2
        exact ⟨(lo + hi) / 2 - lo, by omega, rfl, lo, (lo + hi) / 2, _, rfl, h1, this, by omega, rfl⟩
      · have c2 : ¬ t < ps[(lo + hi) / 2].last := fun z => c2 (decide_eq_true z)
        have := spot_max hT hg c2
        exact ⟨hi - ((lo + hi) / 2 + 1), by omega, rfl, (lo + hi) / 2 + 1, hi, _, rfl, this, h2, h3, rfl⟩
    · have c : ¬ (lo : Int) < hi := fun z => c (decide_eq_true z)
      have e : lo = spotM ps t := by omega
      subst e
      exact ret q
def sp_part_at : SpD := fun ds G Q _ => ∃ ps t x y, ds = [partsD a ps, .int t] ∧ Tile x y ps ∧ x ≤ t ∧ t < y ∧ Q (partD a (partAtM ps t)) G
theorem ok_part_at (T : Txt K w mg a) (k_spot_of : Knows P w K mg base "spot_of" 1 [] (sp_spot_of (a := a))) (Fu : FunD K "part_at" "part_at" (defArgs s_part_at) (defBody s_part_at) (defScope s_part_at) [] [] f fd) : FnD P w K mg base 2 f fd ["parts", "tick"] (sp_part_at (a := a)) := by
  refine fun_ok Fu sc_part_at ?_ (fun cdv A outer s H E hr => (dss_one (ds_ret (de_ix (dv 0) (de_call k_spot_of (hr.mono (by decide)) tk0 (da_cons (dv 0) (da_cons (dv 1) da_nil))))))) ?_
  · rintro ds G Q E ⟨ps, t, x, y, rfl, _⟩; rfl
  · rintro ds G Q E ⟨ps, t, x, y, rfl, hT, h1, h2, q⟩
    exact ⟨ps, t, x, y, rfl, hT, _, partD a (partAtM ps t), rfl, atI_nat (by rw [List.getElem?_map, (partAt_mem hT h1 h2).1]; rfl), ret q⟩
def sp_between : SpD := fun ds G Q _ => ∃ ps f e x y, ds = [partsD a ps, .int f, .int e] ∧ Tile x y ps ∧ ps.length < sizeLine ∧ Q (partsD a (betweenM ps f e)) G
theorem ok_between (T : Txt K w mg a) (k_spot_of : Knows P w K mg base "spot_of" 1 [] (sp_spot_of (a := a))) (k_Part_cut : KnowsM P w K mg base a.Part "cut" 3 [] (sp_Part_cut (a := a)))
    (Fu : FunD K "between" "between" (defArgs s_between) (defBody s_between) (defScope s_between) [] [] f fd) : FnD P w K mg base 5 f fd ["parts", "first", "end"] (sp_between (a := a)) := by
  refine fun_ok Fu sc_between ?_ (fun cdv A outer s H E hr => (dss_cons (ds_set (i := 3) sc_between.nd rfl (Or.inl rfl) (de_lstM da_nil))
      (dss_cons (ds_set (i := 4) sc_between.nd rfl (Or.inl rfl) (de_call k_spot_of (hr.mono (by decide)) tk0 (da_cons (dv 0) (da_cons (dv 1) da_nil))))
      (dss_cons (ds_while po0 (dt_w (dw_and (dt_cmp lt_ok (dv 4) (de_callB len_okD T.len (by decide +kernel) (da_cons (dv 0) da_nil)) (nomark _)) (dw_and1 (dt_cmp lt_ok (de_fld T.clPart T.nPart_first (de_ix (dv 0) (dv 4))) (dv 2) (nomark _))))) (dss_cons (ds_expr (de_append (dv 3) (da_cons (de_meth T.clPart k_Part_cut (hr.mono (by decide)) tk0 (de_ix (dv 0) (dv 4)) (da_cons (dv 1) (da_cons (dv 2) da_nil))) da_nil)))
      (dss_one (ds_aug (i := 4) sc_between.nd rfl (Or.inl rfl) de_int ip_add aug_add))))
      (dss_one (ds_ret (de_ifExp (dt_cmp lt_ok (dv 1) (dv 2) (nomark _)) (dv 3) (de_lst da_nil)))))))) ?_
  · rintro ds G Q E ⟨ps, f, e, x, y, rfl, _⟩; rfl
  · rintro ds G Q E ⟨ps, f, e, x, y, rfl, hT, hz, q⟩
    refine ⟨by decide, fun pf hp => ⟨ps, f, x, y, rfl, hT, ?_⟩⟩
    refine ⟨fun m s G' => ∃ (k : Nat) (done : List Piece), s = [some (partsD a ps), some (.int f), some (.int e), some (.ref pf), some (.int (k : Int))] ∧ k ≤ ps.length ∧ done.length ≤ k ∧ done ++ cutsM (ps.drop k) f e = cutsM (ps.drop (spotM ps f)) f e ∧ G' = put G pf (.lst (done.map (partD a))) ∧ m = ps.length - k,
      ⟨_, spotM ps f, [], rfl, spot_le, Nat.zero_le _, rfl, rfl, rfl⟩, ?_⟩
    rintro m s G' ⟨k, done, rfl, hk, hd, he, rfl, rfl⟩
    have fin : cutsM (ps.drop k) f e = [] → (if decide (f < e) = true then retD K Q (.ref pf) (put G pf (.lst (done.map (partD a)))) else ([] : List D).length ≤ sizeLine ∧ retD K Q (.lst []) (put G pf (.lst (done.map (partD a))))) := fun hn => by
      rw [hn, List.append_nil] at he
      unfold betweenM at q
      rw [← he] at q
      by_cases c : f < e
      · rw [if_pos c] at q
        exact ite_tt' (decide_eq_true c) (ret_lst hp q)
      · rw [if_neg c] at q
        exact ite_ff' (fun z => c (of_decide_eq_true z)) ⟨by decide, retL (Less.put hp) q⟩
    refine ⟨_, rfl, ite2 (fun c => ?_) (fun c => ?_)⟩
    · have c : (k : Int) < ((ps.map (partD a)).length : Nat) := of_decide_eq_true c
      rw [List.length_map] at c
      have hk2 : k < ps.length := by omega
      have hg := List.getElem?_eq_getElem hk2
      have hdrop : ps.drop k = ps[k] :: ps.drop (k + 1) := List.drop_eq_getElem_cons hk2
      have hat : atI (ps.map (partD a)) (k : Int) = some (partD a ps[k]) := atI_nat (by rw [List.getElem?_map, hg]; rfl)
      refine ⟨_, partD a ps[k], rfl, hat, _, .int ps[k].first, rfl, rfl, ite2 (fun c2 => ?_) (fun c2 => ?_)⟩
      · have c2 : ps[k].first < e := of_decide_eq_true c2
        refine ⟨pf, _, rfl, put_same, _, partD a ps[k], rfl, hat, _, rfl, rfl, ps[k], f, e, rfl, _, put_same, ?_, ?_⟩
        · rw [List.length_map]; omega
        · refine ⟨ps.length - (k + 1), by omega, k + 1, done ++ [cutM ps[k] f e], rfl, hk2, ?_, ?_, ?_, rfl⟩
          · simp only [List.length_append, List.length_cons, List.length_nil]; omega
          · rw [← he, hdrop, cuts_cons c2]
            simp
          · rw [put_put, List.map_append]
            rfl
      · have c2 : ¬ ps[k].first < e := fun z => c2 (decide_eq_true z)
        refine fin ?_
        rw [hdrop]
        unfold cutsM
        rw [List.takeWhile_cons_of_neg (by simpa using c2)]
        rfl
    · have c : ¬ (k : Int) < ((ps.map (partD a)).length : Nat) := fun z => c (decide_eq_true z)
      rw [List.length_map] at c
      refine fin ?_
      rw [List.drop_of_length_le (by omega)]
      rfl
end
end TP
end
section
set_option maxRecDepth 100000
set_option maxHeartbeats 1000000
/-! forms.py: parts behind a pass, parts of a track. -/
namespace TP
open PySem PySem.Spec PyProof.Rows DL
open L2 hiding Room FnOk takes0
theorem mergeKD_new : ∀ {ks acc : List (Key × D)}, ((acc ++ ks).map (·.1)).Nodup → mergeKD acc ks = acc ++ ks
  | [], acc, _ => by simp [mergeKD]
  | (k, v) :: ks, acc, nd => by
    have hk : ∀ kv ∈ acc, kv.1 ≠ k := fun kv hkv e => by
      rw [List.map_append, List.nodup_append] at nd
      exact nd.2.2 _ (List.mem_map.mpr ⟨kv, hkv, e⟩) _ (by simp) rfl
    show mergeKD (putKD acc k v) ks = _
    rw [putKD_new hk, mergeKD_new (by simpa using nd)]
    simp
theorem kvs_nd {ts : Terms} (h : (ts.map (·.1)).Nodup) : ((kvsD ts).map (·.1)).Nodup := by
  have e : (kvsD ts).map (·.1) = (ts.map (·.1)).map (Sum.inr : Str → Key) := by
    unfold kvsD
    rw [List.map_map, List.map_map]
    rfl
  rw [e]
  exact List.Pairwise.map _ (fun a b hab e => hab (by injection e)) h
theorem merge_own {ts : Terms} {n : Str} {t : Term} (h : (ts.map (·.1)).Nodup) (hn : n ∉ ts.map (·.1)) : mergeKD (mergeKD [] (kvsD ts)) [((.inr n : Key), termD t)] = kvsD (ts ++ [(n, t)]) := by
  have e : mergeKD [] (kvsD ts) = kvsD ts := by
    rw [mergeKD_new (by rw [List.nil_append]; exact kvs_nd h), List.nil_append]
  rw [e]
  show putKD (kvsD ts) (.inr n) (termD t) = _
  rw [putKD_new (kvs_keys hn), kvs_snoc]
section
variable {P : Program} {w : World} {K : PySem.W.Frag} {mg : Str → Option Value} {base : Heap} {a : Ad} {f : Addr} {fd : FuncData}
structure ZoneOk (n : Int) (z : Zone) : Prop where
  lo : 0 ≤ z.first
  lt : z.first < z.last
  hi : z.last ≤ n
  wt : wOk 101 z.weight
def sp_behind_zone : SpD := fun ds G Q _ => ∃ ps name z ns B n, ds = [partsD a ps, .str name, zoneD a z] ∧ PartsOk ns B 0 n ps ∧ B ≤ 101 ^ 9 ∧ ns.length ≤ 100 ∧ name ∉ ns ∧ ZoneOk n z ∧ ps.length < sizeLine ∧ Q (partsD a (behindZoneM ps name z)) G
theorem ok_behind_zone (T : Txt K w mg a) (k_Part : KnowsC P w K mg base a.Part 1 [] (sp_Part_init (a := a))) (k_Part_at : KnowsM P w K mg base a.Part "at" 1 [] (sp_Part_at (a := a))) (k_part_at : Knows P w K mg base "part_at" 2 [] (sp_part_at (a := a)))
    (k_between : Knows P w K mg base "between" 5 [] (sp_between (a := a))) (k_minus : Knows P w K mg base "minus" 3 [] sp_minus) (k_times : Knows P w K mg base "times" 3 [] sp_times)
    (Fu : FunD K "behind_zone" "behind_zone" (defArgs s_behind_zone) (defBody s_behind_zone) (defScope s_behind_zone) [] [] f fd) : FnD P w K mg base 7 f fd ["parts", "name", "zone"] (sp_behind_zone (a := a)) := by
  refine fun_ok Fu sc_behind_zone ?_ (fun cdv A outer s H E hr => (dss_cons (ds_set (i := 3) sc_behind_zone.nd rfl (Or.inl rfl) (de_dict1 (dv 1) (de_tup (da_cons (de_fld T.clZone T.nZone_place (dv 2)) (da_cons (de_fld T.clZone T.nZone_weight (dv 2)) da_nil)))))
      (dss_cons (ds_if (dt_cmp (eq_ok hr.units) (de_fld T.clZone T.nZone_word (dv 2)) de_str (nomark _)) (dss_one (ds_ret (de_lst (da_cons (de_make (K := K) k_Part T.gPart (hr.mono (by decide)) tk0 (da_cons (de_fld T.clZone T.nZone_first (dv 2)) (da_cons (de_fld T.clZone T.nZone_end (dv 2)) (da_cons (dv 3) da_nil)))) da_nil)))) dss_nil)
      (dss_cons (ds_if (dt_cmp (eq_ok hr.units) (de_fld T.clZone T.nZone_word (dv 2)) de_str (nomark _)) (dss_one (ds_ret (de_lst (da_cons (de_make (K := K) k_Part T.gPart (hr.mono (by decide)) tk0 (da_cons (de_fld T.clZone T.nZone_first (dv 2)) (da_cons (de_fld T.clZone T.nZone_end (dv 2)) (da_cons (de_meth T.clPart k_Part_at (hr.mono (by decide)) tk0 (de_call k_part_at (hr.mono (by decide)) tk0 (da_cons (dv 0) (da_cons (de_fld T.clZone T.nZone_first (dv 2)) da_nil))) (da_cons (de_fld T.clZone T.nZone_first (dv 2)) da_nil)) da_nil)))) da_nil)))) dss_nil)
      (dss_cons (ds_set (i := 4) sc_behind_zone.nd rfl (Or.inl rfl) (de_lstM da_nil))
      (dss_cons (ds_for po0 rfl (di_seq (de_call k_between (hr.mono (by decide)) tk0 (da_cons (dv 0) (da_cons (de_fld T.clZone T.nZone_first (dv 2)) (da_cons (de_fld T.clZone T.nZone_end (dv 2)) da_nil))))) (dg_name (i := 5) sc_behind_zone.nd rfl (Or.inl rfl)) (dss_cons (ds_set (i := 6) sc_behind_zone.nd rfl (Or.inr rfl) (de_ifExp (dt_cmp (eq_ok hr.units) (de_fld T.clZone T.nZone_word (dv 2)) de_str (nomark _)) (de_const T.cONE) (de_call k_minus (hr.mono (by decide)) tk0 (da_cons (de_const T.cONE) (da_cons (de_fld T.clZone T.nZone_weight (dv 2)) da_nil)))))
      (dss_cons (ds_setDc (i := 7) rfl sc_behind_zone.nd rfl rfl (swd_true rfl rfl rfl (by decide +kernel)) (BlkDc.mk (own := [("source", 8), ("place", 9), ("weight", 10)]) (di_items (de_fld T.clPart T.nPart_terms (dv 5))) (blkOk_by (N := N_behind_zone) (sc := defScope s_behind_zone) (own := [("source", 8), ("place", 9), ("weight", 10)]) (by decide +kernel)) (fun _ _ _ _ _ => (dgw_tup (n := 2) rfl (dgsw_cons (dgw_name (i := 8) sc_behind_zone.nd rfl (Or.inl rfl) (by decide)) (dgsw_cons (dgw_tup (n := 2) rfl (dgsw_cons (dgw_name (i := 9) sc_behind_zone.nd rfl (Or.inl rfl) (by decide)) (dgsw_cons (dgw_name (i := 10) sc_behind_zone.nd rfl (Or.inl rfl) (by decide)) dgsw_nil))) dgsw_nil)))) (fun _ _ _ _ _ => (dv 8)) (fun _ _ _ _ _ => (de_tup (da_cons (dv 9) (da_cons (de_call k_times (hr.mono (by decide)) takes0 (da_cons (dv 10) (da_cons (dv 6) da_nil))) da_nil))))))
      (dss_one (ds_expr (de_append (dv 4) (da_cons (de_make (K := K) k_Part T.gPart (hr.mono (by decide)) tk0 (da_cons (de_fld T.clPart T.nPart_first (dv 5)) (da_cons (de_fld T.clPart T.nPart_end (dv 5)) (da_cons (de_dmerge (dv 7) (dv 3)) da_nil)))) da_nil)))))))
      (dss_one (ds_ret (dv 4))))))))) ?_
  · rintro ds G Q E ⟨ps, name, z, ns, B, n, rfl, _⟩; rfl
  · rintro ds G Q E ⟨ps, name, z, ns, B, n, rfl, hps, hB, hns, hn, hz, hlen, q⟩
    have ns_few : ∀ {ts : Terms}, TermsOk ns B ts → ts.length ≤ 100 := fun h => Nat.le_trans h.len hns
    have szl : ∀ k : Nat, k ≤ 200 → k ≤ sizeLine := fun k hk => Nat.le_trans hk (by decide)
    refine ⟨_, placeD z.place, rfl, rfl, _, pr z.weight, rfl, rfl, by show 2 ≤ sizeLine; decide, .inr name, rfl, _, .str z.word, rfl, rfl, ite2 (fun c => ?_) (fun c => ⟨_, .str z.word, rfl, rfl, ite2 (fun c2 => ?_) (fun c2 => ?_)⟩)⟩
    · have c : z.word = "set" := of_decide_eq_true c
      unfold behindZoneM at q
      rw [if_pos c] at q
      exact ⟨_, .int z.first, rfl, rfl, _, .int z.last, rfl, rfl, fun x hx => ⟨x, _, _, _, rfl, put_same, rfl, ret_made hx ⟨by show 1 ≤ sizeLine; decide, ret q⟩⟩⟩
    · have c : ¬ z.word = "set" := fun h => c (decide_eq_true h)
      have c2 : z.word = "freeze" := of_decide_eq_true c2
      unfold behindZoneM at q
      rw [if_neg c, if_pos c2] at q
      obtain ⟨_, hm, _⟩ := partAt_mem hps.tile hz.lo (Int.lt_of_lt_of_le hz.lt hz.hi)
      have ht := hps.terms _ hm
      exact ⟨_, .int z.first, rfl, rfl, _, .int z.last, rfl, rfl, _, .int z.first, rfl, rfl, ps, z.first, 0, n, rfl, hps.tile, hz.lo, Int.lt_of_lt_of_le hz.lt hz.hi, _, rfl, rfl, _, .int z.first, rfl, rfl, partAtM ps z.first, z.first, rfl, ht.nd, szl _ (by have := ns_few ht; omega),
        fun x hx => ⟨x, _, _, _, rfl, put_same, rfl, ret_made hx ⟨by show 1 ≤ sizeLine; decide, ret q⟩⟩⟩
    · have c : ¬ z.word = "set" := fun h => c (decide_eq_true h)
      have c2 : ¬ z.word = "freeze" := fun h => c2 (decide_eq_true h)
      unfold behindZoneM at q
      rw [if_neg c, if_neg c2] at q
      have hb := hps.between hz.lo (Int.le_of_lt hz.lt) hz.hi
      have hbl : (betweenM ps z.first z.last).length < sizeLine := Nat.lt_of_le_of_lt between_le hlen
      refine ⟨by decide, fun pf hpf => ⟨_, .int z.first, rfl, rfl, _, .int z.last, rfl, rfl, ps, z.first, z.last, 0, n, rfl, hps.tile, hlen, _, rfl, ?_⟩⟩
      refine loop_inv (fun rest s G' => ∃ (done left : List Piece) (o5 o6 o7 : Option D), done ++ left = betweenM ps z.first z.last ∧ rest = left.map (partD a) ∧
        s = [some (partsD a ps), some (.str name), some (zoneD a z), some (.dict [((.inr name : Key), termD ⟨z.place, z.weight⟩)]), some (.ref pf), o5, o6, o7, none, none, none] ∧
        G' = put G pf (.lst (done.map fun p => partD a ⟨p.first, p.last, keptM z p.terms ++ [(name, ⟨z.place, z.weight⟩)]⟩))) ?_ ?_ ⟨[], _, none, none, none, rfl, rfl, rfl, rfl⟩
      · rintro d ds s G' ⟨done, left, o5, o6, o7, hd, hr, rfl, rfl⟩ R hR
        cases left with
        | nil => cases hr
        | cons p left =>
          cases hr
          have ht := hb.terms p (by rw [← hd]; simp)
          have hr : wOk 101 (restM z) := by
            unfold restM
            split
            · exact wOk_one (by decide)
            · exact minus_ok hz.wt
          have hf : ∀ x ∈ p.terms, fracOk x.2.weight := fun x hx => ((ht.wt x hx).mono hB).frac
          have hk := ht.kept hz.wt
          have key : ∀ G1 : GD, G1 = put G pf (.lst (done.map fun p => partD a ⟨p.first, p.last, keptM z p.terms ++ [(name, ⟨z.place, z.weight⟩)]⟩)) → R [some (partsD a ps), some (.str name), some (zoneD a z), some (.dict [((.inr name : Key), termD ⟨z.place, z.weight⟩)]), some (.ref pf), some (partD a p), some (pr (restM z)), some (termsD (keptM z p.terms)), none, none, none]
              (put G pf (.lst ((done ++ [p]).map fun p => partD a ⟨p.first, p.last, keptM z p.terms ++ [(name, ⟨z.place, z.weight⟩)]⟩))) := fun _ _ => hR _ _ ⟨done ++ [p], left, _, _, _, by rw [← hd]; simp, rfl, rfl, rfl⟩
          have tail : ∀ r : Int × Int, r = restM z → ∀ x ∈ p.terms, fracOk r := fun r e _ _ => by rw [e]; exact (hr.mono (by decide)).frac
          have hdl : done.length < sizeLine := by
            have := congrArg List.length hd
            simp at this
            omega
          have hmm : p.terms.length + 1 ≤ sizeLine := szl _ (by have := ns_few ht; omega)
          have nk : name ∉ (keptM z p.terms).map (·.1) := fun h => by
            obtain ⟨x, hx, e⟩ := List.mem_map.mp h
            exact hn (by rw [← e]; exact hk.sub x hx)
          refine ⟨_, .str z.word, rfl, rfl, ite2 (fun c3 => ?_) (fun c3 => ?_)⟩
          · have er : restM z = one := if_pos (of_decide_eq_true c3)
            refine ⟨_, _, rfl, rfl, _, rfl, compK_terms (done := []) (fun x => ⟨x.2.place, timesM x.2.weight (restM z)⟩) (fun x hx R r => ⟨rfl, rfl, x.2.weight, one, rfl, hf x hx, tail one er.symm x hx, by show 2 ≤ sizeLine; decide, ?_⟩) (by simpa using ht.nd) (by simp only [List.length_nil]; omega) ?_⟩
            · rw [er] at r
              exact r
            · refine ⟨pf, _, rfl, put_same, _, .int p.first, rfl, rfl, _, .int p.last, rfl, rfl, _, rfl, _, rfl, ?_, fun x hx => ⟨x, _, _, _, rfl, put_same, rfl, ret_made hx ⟨_, put_same, ?_, ?_⟩⟩⟩
              · show (kvsD (keptM z p.terms)).length + 1 ≤ _
                unfold kvsD keptM
                rw [List.length_map, List.length_map]
                exact hmm
              · rw [List.length_map]; exact hdl
              · rw [put_put]
                have k := key _ rfl
                rw [er] at k
                have em : mergeKD (mergeKD [] (kvsD (keptM z p.terms))) [((.inr name : Key), termD ⟨z.place, z.weight⟩)] = _ := merge_own hk.nd nk
                rw [List.map_append] at k
                refine cast (congrArg (fun l => R _ (put G pf (.lst (_ ++ [D.ins a.Part [("first", .int p.first), ("end", .int p.last), ("terms", .dict l)]])))) em.symm) k
          · have er : restM z = minusM one z.weight := if_neg (fun h => c3 (decide_eq_true h))
            refine ⟨_, pr z.weight, rfl, rfl, one, z.weight, rfl, (wOk_one (B := 101 ^ 9) (by decide)).frac, (hz.wt.mono (by decide)).frac, ?_⟩
            refine ⟨_, _, rfl, rfl, _, rfl, compK_terms (done := []) (fun x => ⟨x.2.place, timesM x.2.weight (restM z)⟩) (fun x hx R r => ⟨rfl, rfl, x.2.weight, minusM one z.weight, rfl, hf x hx, tail _ er.symm x hx, by show 2 ≤ sizeLine; decide, ?_⟩) (by simpa using ht.nd) (by simp only [List.length_nil]; omega) ?_⟩
            · rw [er] at r
              exact r
            · refine ⟨pf, _, rfl, put_same, _, .int p.first, rfl, rfl, _, .int p.last, rfl, rfl, _, rfl, _, rfl, ?_, fun x hx => ⟨x, _, _, _, rfl, put_same, rfl, ret_made hx ⟨_, put_same, ?_, ?_⟩⟩⟩
              · show (kvsD (keptM z p.terms)).length + 1 ≤ _
                unfold kvsD keptM
                rw [List.length_map, List.length_map]
                exact hmm
              · rw [List.length_map]; exact hdl
              · rw [put_put]
                have k := key _ rfl
                rw [er] at k
                have em : mergeKD (mergeKD [] (kvsD (keptM z p.terms))) [((.inr name : Key), termD ⟨z.place, z.weight⟩)] = _ := merge_own hk.nd nk
                rw [List.map_append] at k
                refine cast (congrArg (fun l => R _ (put G pf (.lst (_ ++ [D.ins a.Part [("first", .int p.first), ("end", .int p.last), ("terms", .dict l)]])))) em.symm) k
      · rintro s G' ⟨done, left, o5, o6, o7, hd, hr, rfl, rfl⟩
        cases left with
        | cons u left => cases hr
        | nil =>
          rw [List.append_nil] at hd
          subst hd
          refine ret_lst hpf ?_
          unfold partsD at q
          rw [List.map_map] at q
          exact q
def sp_behind : SpD := fun ds G Q _ => ∃ ps p ns B n, ds = [partsD a ps, Pass.d p, .int n] ∧ PartsOk ns B 0 n ps ∧ B ≤ 101 ^ 9 ∧ ns.length ≤ 100 ∧ p.name ∉ ns ∧ RightP n p ∧ ps.length ≤ 10000 ∧ Q (partsD a (behindM ps p n)) G
theorem ok_behind (T : Txt K w mg a) (k_zones_of : Knows P w K mg base "zones_of" 5 [] (sp_zones_of (a := a))) (k_between : Knows P w K mg base "between" 5 [] (sp_between (a := a))) (k_behind_zone : Knows P w K mg base "behind_zone" 7 [] (sp_behind_zone (a := a)))
    (Fu : FunD K "behind" "behind" (defArgs s_behind) (defBody s_behind) (defScope s_behind) [] [] f fd) : FnD P w K mg base 9 f fd ["parts", "one_pass", "length"] (sp_behind (a := a)) := by
  refine fun_ok Fu sc_behind ?_ (fun cdv A outer s H E hr => (dss_cons (ds_set (i := 3) sc_behind.nd rfl (Or.inl rfl) (de_lstM da_nil))
      (dss_cons (ds_set (i := 4) sc_behind.nd rfl (Or.inl rfl) de_int)
      (dss_cons (ds_for po0 rfl (di_seq (de_call k_zones_of (hr.mono (by decide)) tk0 (da_cons (dv 1) (da_cons (dv 2) da_nil)))) (dg_name (i := 5) sc_behind.nd rfl (Or.inl rfl)) (dss_cons (ds_expr (de_extend (dv 3) (da_cons (de_call k_between (hr.mono (by decide)) tk0 (da_cons (dv 0) (da_cons (dv 4) (da_cons (de_fld T.clZone T.nZone_first (dv 5)) da_nil)))) da_nil)))
      (dss_cons (ds_expr (de_extend (dv 3) (da_cons (de_call k_behind_zone (hr.mono (by decide)) tk0 (da_cons (dv 0) (da_cons (de_ix (dv 1) de_int) (da_cons (dv 5) da_nil)))) da_nil)))
      (dss_one (ds_set (i := 4) sc_behind.nd rfl (Or.inl rfl) (de_fld T.clZone T.nZone_end (dv 5)))))))
      (dss_cons (ds_expr (de_extend (dv 3) (da_cons (de_call k_between (hr.mono (by decide)) tk0 (da_cons (dv 0) (da_cons (dv 4) (da_cons (dv 2) da_nil)))) da_nil)))
      (dss_one (ds_ret (dv 3)))))))) ?_
  · rintro ds G Q E ⟨ps, p, ns, B, n, rfl, _⟩; rfl
  · rintro ds G Q E ⟨ps, p, ns, B, n, rfl, hps, hB, hns, hn, hp, hlen, q⟩
    have hz : ps.length < sizeLine := Nat.lt_of_le_of_lt hlen (by decide)
    have tot := behind_len hps.tile hp
    have szl : ∀ k : Nat, k ≤ 20000 → k ≤ sizeLine := fun k hk => Nat.le_trans hk (by decide)
    refine ⟨by decide, fun pf hpf => ⟨p, n, rfl, hp, _, rfl, ?_⟩⟩
    refine loop_inv (fun rest s G' => ∃ (done : List Piece) (left : List Zone) (t : Int) (o5 : Option D), done ++ behindGo ps p.name n left t = behindM ps p n ∧ rest = left.map (zoneD a) ∧ 0 ≤ t ∧ Zs t n left ∧ (∀ z ∈ left, wOk 101 z.weight) ∧
      s = [some (partsD a ps), some p.d, some (.int n), some (.ref pf), some (.int t), o5] ∧ G' = put G pf (.lst (done.map (partD a)))) ?_ ?_ ⟨[], zonesM p n, 0, none, rfl, rfl, Int.le_refl _, zones_zs hp, zones_wt hp, rfl, rfl⟩
    · rintro d ds s G' ⟨done, left, t, o5, hd, hr, ht0, hzs, hwt, rfl, rfl⟩ R hR
      cases left with
      | nil => cases hr
      | cons z left =>
        cases hr
        have hzl := Zs.le hzs.2.2
        have z1 := hzs.1
        have z2 := hzs.2.1
        have l1 : done.length + (betweenM ps t z.first).length + (behindZoneM ps p.name z).length ≤ ps.length + 1215 := by
          rw [← hd] at tot
          simp only [behindGo, List.length_append] at tot
          omega
        refine ⟨pf, _, rfl, put_same, _, .int z.first, rfl, rfl, ps, t, z.first, 0, n, rfl, hps.tile, hz, _, _, put_same, rfl, ?_, ?_⟩
        · rw [List.length_map, List.length_map]
          exact szl _ (by omega)
        refine ⟨pf, _, rfl, put_same, _, .str p.name, rfl, atI_nat (j := 0) rfl, ps, p.name, z, ns, B, n, rfl, hps, hB, hns, hn, ⟨by omega, z2, hzl, hwt z List.mem_cons_self⟩, hz, _, _, put_same, rfl, ?_, ?_⟩
        · rw [List.length_append, List.length_map, List.length_map, List.length_map]
          exact szl _ (by omega)
        rw [put_put, put_put]
        refine ⟨_, .int z.last, rfl, rfl, hR _ _ ⟨done ++ (betweenM ps t z.first ++ behindZoneM ps p.name z), left, z.last, _, ?_, rfl, by omega, hzs.2.2, fun z hz => hwt z (List.mem_cons_of_mem _ hz), rfl, ?_⟩⟩
        · rw [← hd]
          simp [behindGo]
        · simp [partsD]
    · rintro s G' ⟨done, left, t, o5, hd, hr, ht0, hzs, hwt, rfl, rfl⟩
      cases left with
      | cons u left => cases hr
      | nil =>
        refine ⟨pf, _, rfl, put_same, ps, t, n, 0, n, rfl, hps.tile, hz, _, _, put_same, rfl, ?_, ?_⟩
        · rw [List.length_map, List.length_map]
          rw [← hd] at tot
          simp only [behindGo, List.length_append] at tot
          exact szl _ (by omega)
        · rw [put_put]
          refine ret_lst hpf ?_
          rw [← List.map_append]
          have e : done ++ betweenM ps t n = behindM ps p n := hd
          rw [e]
          exact q
def sp_parts_of : SpD := fun ds G Q _ => ∃ n ps, ds = [trackD a n ps] ∧ RightT n ps ∧ Q (partsD a (partsM n ps)) G
theorem ok_parts_of (T : Txt K w mg a) (k_Part : KnowsC P w K mg base a.Part 1 [] (sp_Part_init (a := a))) (k_Track_length : KnowsP P w K mg base a.Track "length" 1 (sp_Track_length (a := a))) (k_Track_passes : KnowsP P w K mg base a.Track "passes" 1 (sp_Track_passes (a := a)))
    (k_behind : Knows P w K mg base "behind" 9 [] (sp_behind (a := a))) (k_between : Knows P w K mg base "between" 5 [] (sp_between (a := a)))
    (Fu : FunD K "parts_of" "parts_of" (defArgs s_parts_of) (defBody s_parts_of) (defScope s_parts_of) [] [] f fd) : FnD P w K mg base 11 f fd ["track"] (sp_parts_of (a := a)) := by
  refine fun_ok Fu sc_parts_of ?_ (fun cdv A outer s H E hr => (dss_cons (ds_set (i := 1) sc_parts_of.nd rfl (Or.inl rfl) (de_lst (da_cons (de_make (K := K) k_Part T.gPart (hr.mono (by decide)) tk0 (da_cons de_int (da_cons (de_prop T.clTrack k_Track_length (hr.mono (by decide)) (dv 0)) (da_cons (de_dict1 (de_const T.cOLD) (de_tup (da_cons de_non (da_cons (de_const T.cONE) da_nil)))) da_nil)))) da_nil)))
      (dss_cons (ds_for po0 rfl (di_seq (de_prop T.clTrack k_Track_passes (hr.mono (by decide)) (dv 0))) (dg_name (i := 2) sc_parts_of.nd rfl (Or.inl rfl)) (dss_one (ds_set (i := 1) sc_parts_of.nd rfl (Or.inl rfl) (de_call k_behind (hr.mono (by decide)) tk0 (da_cons (dv 1) (da_cons (dv 2) (da_cons (de_prop T.clTrack k_Track_length (hr.mono (by decide)) (dv 0)) da_nil)))))))
      (dss_cons (ds_set (i := 3) sc_parts_of.nd rfl (Or.inl rfl) (de_lstM da_nil))
      (dss_cons (ds_for po0 rfl (di_seq (dv 1)) (dg_name (i := 4) sc_parts_of.nd rfl (Or.inl rfl)) (dss_cons (ds_expr (de_extend (dv 3) (da_cons (de_call k_between (hr.mono (by decide)) tk0 (da_cons (de_lst (da_cons (dv 4) da_nil)) (da_cons (de_fld T.clPart T.nPart_first (dv 4)) (da_cons (de_add (de_fld T.clPart T.nPart_first (dv 4)) de_int) da_nil)))) da_nil)))
      (dss_one (ds_expr (de_extend (dv 3) (da_cons (de_call k_between (hr.mono (by decide)) tk0 (da_cons (de_lst (da_cons (dv 4) da_nil)) (da_cons (de_add (de_fld T.clPart T.nPart_first (dv 4)) de_int) (da_cons (de_fld T.clPart T.nPart_end (dv 4)) da_nil)))) da_nil))))))
      (dss_one (ds_ret (dv 3)))))))) ?_
  · rintro ds G Q E ⟨n, ps, rfl, _⟩; rfl
  · rintro ds G Q E ⟨n, ps, rfl, ht, q⟩
    have hlo := ht.lo
    have start : PartsOk ["old"] (101 ^ 0) 0 n [⟨0, n, [("old", ⟨none, one⟩)]⟩] := by
      refine ⟨⟨rfl, by show (0 : Int) < n; omega, rfl⟩, fun p hp => ?_⟩
      obtain rfl := List.mem_singleton.mp hp
      exact ⟨by simp, fun x hx => by obtain rfl := List.mem_singleton.mp hx; simp, fun x hx => by obtain rfl := List.mem_singleton.mp hx; exact wOk_one (by decide)⟩
    have key : ∀ k : Nat, k < 10 → (101 : Int) ^ k ≤ 101 ^ 9 := by decide
    refine ⟨_, rfl, n, ps, rfl, by show 2 ≤ sizeLine; decide, .inr "old", rfl, fun x hx => ⟨x, _, _, _, rfl, put_same, rfl, ret_made hx ⟨by show 1 ≤ sizeLine; decide, _, rfl, n, ps, rfl, _, rfl, ?_⟩⟩⟩
    refine loop_inv (fun rest s G' => ∃ (done left : List Pass) (parts : List Piece) (o2 : Option D), ps = done ++ left ∧ rest = left.map Pass.d ∧ left.foldl (fun parts p => behindM parts p n) parts = rawM n ps ∧ PartsOk (("old" : Str) :: done.map (·.name)) (101 ^ done.length) 0 n parts ∧ parts.length ≤ 1 + 1215 * done.length ∧
      s = [some (trackD a n ps), some (partsD a parts), o2, none, none] ∧ G' = G) ?_ ?_ ⟨[], ps, [⟨0, n, [("old", ⟨none, one⟩)]⟩], none, rfl, rfl, rfl, start, by simp, rfl, rfl⟩
    · rintro d ds s G' ⟨done, left, parts, o2, hps, hr, hf, hok, hl, rfl, rfl⟩ R hR
      cases left with
      | nil => cases hr
      | cons p left =>
        cases hr
        have hp := ht.right p (by rw [hps]; simp)
        have few := ht.few
        have dl : done.length + left.length + 1 ≤ 8 := by rw [hps] at few; simp at few; omega
        have hn : p.name ∉ ("old" : Str) :: done.map (·.name) := fun h => by
          rcases List.mem_cons.mp h with h | h
          · exact hp.old h
          · have nd := ht.nd
            rw [hps, List.map_append, List.nodup_append] at nd
            exact nd.2.2 _ h _ (by simp) rfl
        have hB : (1 : Int) ≤ 101 ^ done.length := by
          have : (0 : Int) < 101 ^ done.length := Int.pow_pos (by decide)
          omega
        have hb := behind_ok hok hB hn hp
        have hbl := behind_len hok.tile hp
        refine ⟨_, rfl, n, ps, rfl, parts, p, ("old" : Str) :: done.map (·.name), 101 ^ done.length, n, rfl, hok, key _ (by omega), by simp only [List.length_cons, List.length_map]; omega, hn, hp, by omega, hR _ _ ⟨done ++ [p], left, behindM parts p n, _, by rw [hps]; simp, rfl, hf, ?_, ?_, rfl, rfl⟩⟩
        · rw [List.length_append, List.length_singleton, Int.pow_succ, List.map_append]
          exact hb
        · rw [List.length_append, List.length_singleton]
          omega
    · rintro s G' ⟨done, left, parts, o2, hps, hr, hf, hok, hl, rfl, rfl⟩
      cases left with
      | cons u left => cases hr
      | nil =>
        have hf : parts = rawM n ps := hf
        subst hf
        obtain ⟨h1, h2⟩ := raw_ok ht
        obtain ⟨h3, h4⟩ := parts_ok ht
        refine ⟨by decide, fun pf hpf => ⟨_, rfl, ?_⟩⟩
        refine loop_inv (fun rest s G2 => ∃ (done left : List Piece) (o4 : Option D), rawM n ps = done ++ left ∧ rest = left.map (partD a) ∧ s = [some (trackD a n ps), some (partsD a (rawM n ps)), o2, some (.ref pf), o4] ∧ G2 = put G' pf (.lst ((done.flatMap splitM).map (partD a)))) ?_ ?_ ⟨[], _, none, rfl, rfl, rfl, rfl⟩
        · rintro d ds s G' ⟨done, left, o4, hd, hr, rfl, rfl⟩ R hR
          cases left with
          | nil => cases hr
          | cons p left =>
            cases hr
            have hpm : p ∈ rawM n ps := by rw [hd]; simp
            have hlt := (h1.tile.lasts p hpm).2.1
            have tl : Tile p.first p.last [p] := ⟨rfl, hlt, rfl⟩
            have b1 := between_le (ps := [p]) (f := p.first) (e := p.first + 1)
            have b2 := between_le (ps := [p]) (f := p.first + 1) (e := p.last)
            have b3 : [p].length = 1 := rfl
            have dl : (done.flatMap splitM).length ≤ 20000 := by
              have : (partsM n ps).length = (done.flatMap splitM).length + ((p :: left).flatMap splitM).length := by
                unfold partsM
                rw [hd, List.flatMap_append, List.length_append]
              omega
            have szl : ∀ k : Nat, k ≤ 30000 → k ≤ sizeLine := fun k hk => Nat.le_trans hk (by decide)
            refine ⟨pf, _, rfl, put_same, by show 1 ≤ sizeLine; decide, _, .int p.first, rfl, rfl, _, .int p.first, rfl, rfl, [p], p.first, p.first + 1, p.first, p.last, rfl, tl, by show 1 < sizeLine; decide, _, _, put_same, rfl, ?_, ?_⟩
            · rw [List.length_map, List.length_map]
              exact szl _ (by omega)
            refine ⟨pf, _, rfl, put_same, by show 1 ≤ sizeLine; decide, _, .int p.first, rfl, rfl, _, .int p.last, rfl, rfl, [p], p.first + 1, p.last, p.first, p.last, rfl, tl, by show 1 < sizeLine; decide, _, _, put_same, rfl, ?_, hR _ _ ⟨done ++ [p], left, _, by rw [hd]; simp, rfl, rfl, ?_⟩⟩
            · rw [List.length_append, List.length_map, List.length_map, List.length_map]
              exact szl _ (by omega)
            · rw [put_put, put_put]
              simp [splitM]
        · rintro s G' ⟨done, left, o4, hd, hr, rfl, rfl⟩
          cases left with
          | cons u left => cases hr
          | nil =>
            rw [List.append_nil] at hd
            subst hd
            exact ret_lst hpf q
end
end TP
end
section
set_option maxRecDepth 100000
set_option maxHeartbeats 1000000
/-! forms.py: forms. -/
namespace TP
open PySem PySem.Spec PyProof.Rows DL
open L2 hiding Room FnOk takes0
open LamX (TabB)
def getT (ts : Terms) (n : Str) : Option Term := (ts.find? fun x => decide (x.1 = n)).map (·.2)
theorem getT_mem : ∀ {ts : Terms} {n : Str} {t : Term}, (ts.map (·.1)).Nodup → (n, t) ∈ ts → getT ts n = some t
  | [], _, _, _, h => (List.not_mem_nil h).elim
  | x :: ts, n, t, nd, h => by
    obtain ⟨n1, n2⟩ := List.nodup_cons.mp nd
    unfold getT
    rcases List.mem_cons.mp h with h | h
    · subst h
      rw [List.find?_cons_of_pos (by simp)]
      rfl
    · have ne : ¬ x.1 = n := fun e => n1 (List.mem_map.mpr ⟨_, h, e.symm⟩)
      rw [List.find?_cons_of_neg (by simpa using ne)]
      exact getT_mem n2 h
theorem valD_kvs (ts : Terms) (n : Str) : valD (kvsD ts) (.inr n) = (getT ts n).map termD := by
  unfold valD getT kvsD
  rw [List.find?_map]
  have e : ((fun kv : Key × D => decide (kv.1 = (.inr n : Key))) ∘ fun x : Str × Term => ((.inr x.1 : Key), termD x.2)) = fun x => decide (x.1 = n) := by
    funext x
    show decide ((.inr x.1 : Key) = .inr n) = decide (x.1 = n)
    by_cases h : x.1 = n
    · rw [h]; simp
    · have h2 : ¬ (.inr x.1 : Key) = .inr n := fun e => h (by injection e)
      simp [h, h2]
  rw [e, Option.map_map, Option.map_map]
  rfl
theorem getT_get {ts : Terms} {n : Str} {t : Term} (h : getT ts n = some t) : (n, t) ∈ ts := by
  unfold getT at h
  cases e : ts.find? (fun x => decide (x.1 = n)) with
  | none => rw [e] at h; cases h
  | some x =>
    rw [e] at h
    have h1 := List.find?_some e
    have h2 := List.mem_of_find?_eq_some e
    have h1 : x.1 = n := by simpa using h1
    have h : x.2 = t := Option.some.inj h
    rw [← h1, ← h]
    exact h2
def termParts (x : Str × Term) : Str × List D := (x.1, [placeD x.2.place, pr x.2.weight])
def toldM (ts : Terms) : List D := (byText (ts.map termParts)).map txtD
def formM (n : Int) (ps : List Pass) (t : Int) : D := .tup (toldM (atM (partAtM (partsM n ps) t) t))
def tellD (ts : Terms) : D → D
  | .str n => (match getT ts n with
    | some t => txtD (termParts (n, t))
    | none => .non)
  | _ => .non
section
variable {P : Program} {w : World} {K : PySem.W.Frag} {mg : Str → Option Value} {base : Heap} {a : Ad} {f c pt : Addr} {fd : FuncData}
abbrev qTold : Str := "told.<locals>.<lambda>"
def sp_told (pt : Addr) : SpD := fun ds G Q _ => ∃ ts, ds = [termsD ts] ∧ (ts.map (·.1)).Nodup ∧ ts.length ≤ sizeLine ∧ G pt = some (.tab qTold) ∧ Q (.tup (toldM ts)) G
theorem ok_told (T : Txt K w mg a) (TB : TabB base mg c pt) (hc : fd.code = .ref c) (Fu : FunD K "told" "told" (defArgs s_told) (defBody s_told) (defScope s_told) [] [] f fd) : FnD P w K mg base 6 f fd ["terms"] (sp_told pt) := by
  refine fun_okL Fu hc sc_told ?_ (fun A outer s H E hr => (dss_one (ds_ret (de_callTy tuple_okD T.tuple_ (by decide +kernel) (da_cons (de_sortedKeyQ (q := "told.<locals>.<lambda>") T.sorted TB rfl (hr.mono (by decide)) (de_lc rfl sc_told.nd (BlkD.mk (own := [("name", 1)]) (di_dict (dv 0)) (blkOk_by (N := N_told) (sc := defScope s_told) (own := [("name", 1)]) (by decide +kernel)) (fun _ _ _ _ _ => (dgw_name (i := 1) sc_told.nd rfl (Or.inl rfl) (by decide))) (fun _ _ _ _ _ => dts_nil) (fun _ _ _ _ _ => (de_tup (da_cons (dv 1) (da_cons (de_ix (de_dget (hu_of hr.toRoom) (dv 0) (dv 1)) de_int) (da_cons (de_ix (de_dget (hu_of hr.toRoom) (dv 0) (dv 1)) de_int) da_nil)))))))) da_nil))))) ?_
  · rintro ds G Q E ⟨ts, rfl, _⟩; rfl
  · rintro ds G Q E ⟨ts, rfl, nd, hl, hp, q⟩
    have hs : (kvsD ts).map (fun kv => dOf kv.1) = ts.map fun x => D.str x.1 := by
      unfold kvsD
      rw [List.map_map]
      rfl
    refine ⟨_, rfl, ?_⟩
    rw [hs]
    refine comp1 (tellD ts) (fun x hx R r => ?_) (by rw [List.length_map]; exact hl) ⟨ts.map termParts, ?_, hp, _, rfl, ret q⟩
    · obtain ⟨⟨n, t⟩, hy, rfl⟩ := List.mem_map.mp hx
      have e := getT_mem nd hy
      have v : valD (kvsD ts) (.inr n) = some (termD t) := by rw [valD_kvs, e]; rfl
      refine ⟨_, .inr n, termD t, rfl, rfl, v, _, placeD t.place, rfl, rfl, _, .inr n, termD t, rfl, rfl, v, _, pr t.weight, rfl, rfl, by show 3 ≤ sizeLine; decide, ?_⟩
      have e2 : tellD ts (.str n) = txtD (termParts (n, t)) := by
        show (match getT ts n with
          | some t => txtD (termParts (n, t))
          | none => D.non) = _
        rw [e]
      rw [e2] at r
      exact r
    · rw [List.map_map, List.map_map]
      refine congrArg D.lst (List.map_congr_left fun x hx => ?_)
      show (match getT ts x.1 with
        | some t => txtD (termParts (x.1, t))
        | none => D.non) = _
      rw [getT_mem nd hx]
      rfl
def sp_form_of (pt : Addr) : SpD := fun ds G Q _ => ∃ n ps t, ds = [trackD a n ps, .int t] ∧ RightT n ps ∧ 0 ≤ t ∧ t < n ∧ G pt = some (.tab qTold) ∧ Q (formM n ps t) G
theorem ok_form_of (T : Txt K w mg a) (k_told : Knows P w K mg base "told" 6 [] (sp_told pt)) (k_Part_at : KnowsM P w K mg base a.Part "at" 1 [] (sp_Part_at (a := a))) (k_part_at : Knows P w K mg base "part_at" 2 [] (sp_part_at (a := a))) (k_parts_of : Knows P w K mg base "parts_of" 11 [] (sp_parts_of (a := a)))
    (Fu : FunD K "form_of" "form_of" (defArgs s_form_of) (defBody s_form_of) (defScope s_form_of) [] [] f fd) : FnD P w K mg base 13 f fd ["track", "tick"] (sp_form_of (a := a) pt) := by
  refine fun_ok Fu sc_form_of ?_ (fun cdv A outer s H E hr => (dss_one (ds_ret (de_call k_told (hr.mono (by decide)) tk0 (da_cons (de_meth T.clPart k_Part_at (hr.mono (by decide)) tk0 (de_call k_part_at (hr.mono (by decide)) tk0 (da_cons (de_call k_parts_of (hr.mono (by decide)) tk0 (da_cons (dv 0) da_nil)) (da_cons (dv 1) da_nil))) (da_cons (dv 1) da_nil)) da_nil))))) ?_
  · rintro ds G Q E ⟨n, ps, t, rfl, _⟩; rfl
  · rintro ds G Q E ⟨n, ps, t, rfl, ht, h0, h1, hp, q⟩
    obtain ⟨ho, _⟩ := parts_ok ht
    obtain ⟨_, hm, _⟩ := partAt_mem ho.tile h0 h1
    have hk := ho.terms _ hm
    have few := ht.few
    have l1 : (partAtM (partsM n ps) t).terms.length ≤ sizeLine := by
      have := hk.len
      simp only [srcs, List.length_cons, List.length_map] at this
      exact Nat.le_trans (by omega : _ ≤ 20) (by decide)
    have l2 : (atM (partAtM (partsM n ps) t) t).length ≤ sizeLine := by
      unfold atM
      rw [List.length_map]
      exact l1
    exact ⟨n, ps, rfl, ht, partsM n ps, t, 0, n, rfl, ho.tile, h0, h1, _, rfl, rfl, partAtM (partsM n ps) t, t, rfl, hk.nd, l1, atM (partAtM (partsM n ps) t) t, rfl, (hk.at t).nd, l2, hp, ret q⟩
end
end TP
end
section
set_option maxRecDepth 100000
set_option maxHeartbeats 1000000
/-! jumps.py: differences of weights. -/
namespace TP
open PySem PySem.Spec PyProof.Rows DL
open L2 hiding Room FnOk takes0
def zeroF : Int × Int := (0, 1)
def wtOf (ts : Terms) (n : Str) : Int × Int := match getT ts n with
  | some t => t.weight
  | none => zeroF
def gapM (v w : Int × Int) : Int × Int := if moreF v w = true then minusM v w else minusM w v
def stepM (o p : Terms) (n : Str) : Int × Int := gapM (wtOf o n) (wtOf p n)
def putN (ns : List Str) (n : Str) : List Str := if n ∈ ns then ns else ns ++ [n]
def keysM (o p : Terms) : List Str := p.foldl (fun ns x => putN ns x.1) (o.map (·.1))
def moreOf (found s : Int × Int) : Int × Int := if moreF s found = true then s else found
def diffM (o p : Terms) : Int × Int := (keysM o p).foldl (fun found n => moreOf found (stepM o p n)) zeroF
def stepsAll (ps : List Piece) : List ((Int × Int) × Int) := (ps.zip ps.tail).map fun x => (diffM x.1.terms x.2.terms, x.2.first)
def pyPair (w : Int × Int) : PyData := .tuple [.int w.1, .int w.2]
def isZeroF (w : Int × Int) : Bool := PyData.eqv (pyPair w) (pyPair zeroF)
def stepsM (n : Int) (ps : List Pass) : List ((Int × Int) × Int) := (stepsAll (partsM n ps)).filter fun s => !isZeroF s.1
def suddenM (n : Int) (ps : List Pass) (l : Int × Int) : List Int := ((stepsM n ps).filter fun s => moreF s.1 l).map (·.2)
/-! ### sizes -/
def bigB : Int := 101 ^ 18
theorem zero_ok {B : Int} (h : 1 ≤ B) : wOk B zeroF := ⟨by decide, by decide, by decide, h⟩
theorem wOk.frac2 {w : Int × Int} (h : wOk bigB w) : fracOk w := by
  obtain ⟨h1, h2, h3, h4⟩ := h
  have e : bigB = 1196147475686664860781049986817531801 := by decide
  rw [e] at h4
  exact ⟨h3, by omega, by omega⟩
theorem wt_ok {ns : List Str} {ts : Terms} (h : TermsOk ns (101 ^ 9) ts) (n : Str) : wOk (101 ^ 9) (wtOf ts n) := by
  unfold wtOf
  split
  · rename_i t e
    exact h.wt _ (getT_get e)
  · exact zero_ok (by decide)
theorem minus_le {B C : Int} {v w : Int × Int} (hv : wOk B v) (hw : wOk C w) (h : w.1 * v.2 ≤ v.1 * w.2) : wOk (B * C) (minusM v w) := by
  obtain ⟨v1, v2, v3, v4⟩ := hv
  obtain ⟨w1, w2, w3, w4⟩ := hw
  have a1 : v.1 * w.2 ≤ v.2 * w.2 := Int.mul_le_mul_of_nonneg_right v2 (Int.le_of_lt w3)
  have a2 : 0 ≤ w.1 * v.2 := Int.mul_nonneg w1 (Int.le_of_lt v3)
  refine (lows_ok (by omega) (by omega) (Int.mul_pos v3 w3)).mono ?_
  exact Int.mul_le_mul v4 w4 (Int.le_of_lt w3) (by omega)
theorem gap_ok {v w : Int × Int} (hv : wOk (101 ^ 9) v) (hw : wOk (101 ^ 9) w) : wOk bigB (gapM v w) := by
  have e : (101 : Int) ^ 9 * 101 ^ 9 = bigB := by decide
  unfold gapM
  split
  · rename_i c
    have c : w.1 * v.2 < v.1 * w.2 := of_decide_eq_true c
    rw [← e]
    exact minus_le hv hw (by omega)
  · rename_i c
    have c : ¬ w.1 * v.2 < v.1 * w.2 := fun z => c (decide_eq_true z)
    rw [← e]
    exact minus_le hw hv (by omega)
theorem more_ok {f s : Int × Int} (hf : wOk bigB f) (hs : wOk bigB s) : wOk bigB (moreOf f s) := by
  unfold moreOf
  split
  · exact hs
  · exact hf
theorem diff_ok {ns : List Str} {o p : Terms} (ho : TermsOk ns (101 ^ 9) o) (hp : TermsOk ns (101 ^ 9) p) : wOk bigB (diffM o p) := by
  have key : ∀ (l : List Str) (f : Int × Int), wOk bigB f → wOk bigB (l.foldl (fun found n => moreOf found (stepM o p n)) f) := by
    intro l
    induction l with
    | nil => exact fun f h => h
    | cons n l ih => exact fun f h => ih _ (more_ok h (gap_ok (wt_ok ho n) (wt_ok hp n)))
  exact key _ _ (zero_ok (by decide))
/-! ### keys -/
theorem putKD_keys {acc : List (Key × D)} {ns : List Str} {n : Str} {v : D} (h : acc.map (·.1) = ns.map (Sum.inr : Str → Key)) : (putKD acc (.inr n) v).map (·.1) = (putN ns n).map (Sum.inr : Str → Key) := by
  have hany : (acc.any fun kv => decide (kv.1 = (.inr n : Key))) = decide (n ∈ ns) := by
    have e1 : (acc.any fun kv => decide (kv.1 = (.inr n : Key))) = (acc.map (·.1)).any fun k => decide (k = (.inr n : Key)) := by rw [List.any_map]; rfl
    rw [e1, h, List.any_map]
    by_cases hm : n ∈ ns
    · rw [decide_eq_true hm, List.any_eq_true]
      exact ⟨n, hm, by simp⟩
    · rw [decide_eq_false hm, List.any_eq_false]
      intro x hx
      have ne : ¬ x = n := fun e => hm (by rw [← e]; exact hx)
      simpa using ne
  unfold putKD putN
  rw [hany]
  by_cases hm : n ∈ ns
  · rw [if_pos (decide_eq_true hm), if_pos hm, ← h, List.map_map]
    refine List.map_congr_left fun kv _ => ?_
    show (if kv.1 = (.inr n : Key) then (kv.1, v) else kv).1 = kv.1
    split <;> rfl
  · rw [if_neg (fun z => hm (of_decide_eq_true z)), if_neg hm, List.map_append, List.map_append, h]
    rfl
theorem merge_keys : ∀ {p : Terms} {acc : List (Key × D)} {ns : List Str}, acc.map (·.1) = ns.map (Sum.inr : Str → Key) → (mergeKD acc (kvsD p)).map (·.1) = (p.foldl (fun ns x => putN ns x.1) ns).map (Sum.inr : Str → Key)
  | [], _, _, h => h
  | x :: p, acc, ns, h => merge_keys (p := p) (putKD_keys (v := termD x.2) h)
theorem keys_len : ∀ {p : Terms} {ns : List Str}, (p.foldl (fun ns x => putN ns x.1) ns).length ≤ ns.length + p.length
  | [], _ => by simp
  | x :: p, ns => by
    have h := keys_len (p := p) (ns := putN ns x.1)
    have : (putN ns x.1).length ≤ ns.length + 1 := by
      unfold putN
      split <;> simp
    rw [List.foldl_cons, List.length_cons]
    omega
section
variable {P : Program} {w : World} {K : PySem.W.Frag} {mg : Str → Option Value} {base : Heap} {a : Ad} {f : Addr} {fd : FuncData}
def wtD (n : Str) : D → D
  | .dict kvs => (match valD kvs (.inr n) with
    | some (.tup [_, w]) => w
    | _ => pr zeroF)
  | _ => .non
theorem wtD_of (ts : Terms) (n : Str) : wtD n (termsD ts) = pr (wtOf ts n) := by
  show (match valD (kvsD ts) (.inr n) with
    | some (.tup [_, w]) => w
    | _ => pr zeroF) = _
  rw [valD_kvs]
  unfold wtOf
  cases getT ts n <;> rfl
def sp_difference : SpD := fun ds G Q _ => ∃ o p ns, ds = [termsD o, termsD p] ∧ TermsOk ns (101 ^ 9) o ∧ TermsOk ns (101 ^ 9) p ∧ ns.length ≤ 100 ∧ Q (pr (diffM o p)) G
theorem ok_difference (T : Txt K w mg a) (k_is_more : Knows P w K mg base "is_more" 1 [] sp_is_more) (k_minus : Knows P w K mg base "minus" 3 [] sp_minus) (Fu : FunD K "difference" "difference" (defArgs s_difference) (defBody s_difference) (defScope s_difference) [] [] f fd) :
    FnD P w K mg base 5 f fd ["one", "other"] sp_difference := by
  refine fun_ok Fu sc_difference ?_ (fun cdv A outer s H E hr => (dss_cons (ds_set (i := 2) sc_difference.nd rfl (Or.inl rfl) (de_const T.cZERO))
      (dss_cons (ds_for po0 rfl (di_dict (de_dmerge (dv 0) (dv 1))) (dg_name (i := 3) sc_difference.nd rfl (Or.inr rfl)) (dss_cons (ds_asg (de_lc rfl sc_difference.nd (BlkD.mk (own := [("terms", 7)]) (di_seq (de_tup (da_cons (dv 0) (da_cons (dv 1) da_nil)))) (blkOk_by (N := N_difference) (sc := defScope s_difference) (own := [("terms", 7)]) (by decide +kernel)) (fun _ _ _ _ _ => (dgw_name (i := 7) sc_difference.nd rfl (Or.inl rfl) (by decide))) (fun _ _ _ _ _ => dts_nil) (fun _ _ _ _ _ => (de_ifExp (dt_din (hu_of hr.toRoom) (dv 3) (dv 7)) (de_ix (de_dget (hu_of hr.toRoom) (dv 7) (dv 3)) de_int) (de_const T.cZERO))))) (dg_lst (n := 2) rfl (dgs_cons (dg_name (i := 5) sc_difference.nd rfl (Or.inl rfl)) (dgs_cons (dg_name (i := 6) sc_difference.nd rfl (Or.inl rfl)) dgs_nil))))
      (dss_cons (ds_set (i := 4) sc_difference.nd rfl (Or.inl rfl) (de_ifExp (dt_val (de_call k_is_more (hr.mono (by decide)) tk0 (da_cons (dv 5) (da_cons (dv 6) da_nil)))) (de_call k_minus (hr.mono (by decide)) tk0 (da_cons (dv 5) (da_cons (dv 6) da_nil))) (de_call k_minus (hr.mono (by decide)) tk0 (da_cons (dv 6) (da_cons (dv 5) da_nil)))))
      (dss_one (ds_set (i := 2) sc_difference.nd rfl (Or.inl rfl) (de_ifExp (dt_val (de_call k_is_more (hr.mono (by decide)) tk0 (da_cons (dv 4) (da_cons (dv 2) da_nil)))) (dv 4) (dv 2)))))))
      (dss_one (ds_ret (dv 2)))))) ?_
  · rintro ds G Q E ⟨o, p, ns, rfl, _⟩; rfl
  · rintro ds G Q E ⟨o, p, ns, rfl, ho, hp, hl, q⟩
    have lo := ho.len
    have lp := hp.len
    have mk : (mergeKD (mergeKD [] (kvsD o)) (kvsD p)).map (fun kv => dOf kv.1) = (keysM o p).map D.str := by
      have e : mergeKD [] (kvsD o) = kvsD o := by
        rw [mergeKD_new (by rw [List.nil_append]; exact kvs_nd ho.nd), List.nil_append]
      rw [e]
      have h := merge_keys (p := p) (acc := kvsD o) (ns := o.map (·.1)) (by unfold kvsD; rw [List.map_map, List.map_map]; rfl)
      have h2 : (mergeKD (kvsD o) (kvsD p)).map (fun kv => dOf kv.1) = ((mergeKD (kvsD o) (kvsD p)).map (·.1)).map dOf := by rw [List.map_map]; rfl
      rw [h2, h, List.map_map]
      rfl
    refine ⟨_, rfl, _, rfl, ?_, _, rfl, ?_⟩
    · show (kvsD o).length + (kvsD p).length ≤ _
      unfold kvsD
      rw [List.length_map, List.length_map]
      exact Nat.le_trans (by omega : _ ≤ 300) (by decide)
    rw [mk]
    refine loop_inv (fun rest s G' => ∃ (left : List Str) (f : Int × Int) (o3 o4 o5 o6 : Option D), rest = left.map D.str ∧ wOk bigB f ∧ left.foldl (fun found n => moreOf found (stepM o p n)) f = diffM o p ∧ s = [some (termsD o), some (termsD p), some (pr f), o3, o4, o5, o6, none] ∧ G' = G) ?_ ?_
      ⟨keysM o p, zeroF, none, none, none, none, rfl, zero_ok (by decide), rfl, rfl, rfl⟩
    · rintro d ds s G' ⟨left, f, o3, o4, o5, o6, hr, hf, hd, rfl, rfl⟩ R hR
      cases left with
      | nil => cases hr
      | cons n left =>
        cases hr
        have hv := wt_ok ho n
        have hw := wt_ok hp n
        have fv : fracOk (wtOf o n) := hv.frac
        have fw : fracOk (wtOf p n) := hw.frac
        have hs := gap_ok hv hw
        have last : ∀ g : Int × Int, g = stepM o p n → (if moreF g f = true then R [some (termsD o), some (termsD p), some (pr g), some (.str n), some (pr g), some (pr (wtOf o n)), some (pr (wtOf p n)), none] G' else R [some (termsD o), some (termsD p), some (pr f), some (.str n), some (pr g), some (pr (wtOf o n)), some (pr (wtOf p n)), none] G') := fun g e => by
          subst e
          have h2 := fun o4 => hR [some (termsD o), some (termsD p), some (pr (moreOf f (stepM o p n))), some (.str n), o4, some (pr (wtOf o n)), some (pr (wtOf p n)), none] G' ⟨left, _, _, _, _, _, rfl, more_ok hf hs, hd, rfl, rfl⟩
          by_cases c : moreF (stepM o p n) f = true
          · rw [if_pos c]
            have e : moreOf f (stepM o p n) = stepM o p n := if_pos c
            rw [e] at h2
            exact h2 _
          · rw [if_neg c]
            have e : moreOf f (stepM o p n) = f := if_neg c
            rw [e] at h2
            exact h2 _
        refine ⟨by show 2 ≤ sizeLine; decide, _, rfl, comp1 (wtD n) (fun x hx R2 r => ?_) (by show 2 ≤ sizeLine; decide) ?_⟩
        · simp only [List.mem_cons, List.not_mem_nil, or_false] at hx
          rcases hx with rfl | rfl
          · rw [wtD_of] at r
            unfold wtOf at r
            refine ⟨_, .inr n, rfl, rfl, ?_⟩
            cases e : getT o n with
            | none =>
              have v : (valD (kvsD o) (.inr n)).isSome = false := by rw [valD_kvs, e]; rfl
              rw [e] at r
              rw [v]
              exact r
            | some t =>
              have v : valD (kvsD o) (.inr n) = some (termD t) := by rw [valD_kvs, e]; rfl
              have v2 : (valD (kvsD o) (.inr n)).isSome = true := by rw [v]; rfl
              rw [e] at r
              rw [v2]
              exact ⟨_, .inr n, termD t, rfl, rfl, v, _, pr t.weight, rfl, rfl, r⟩
          · rw [wtD_of] at r
            unfold wtOf at r
            refine ⟨_, .inr n, rfl, rfl, ?_⟩
            cases e : getT p n with
            | none =>
              have v : (valD (kvsD p) (.inr n)).isSome = false := by rw [valD_kvs, e]; rfl
              rw [e] at r
              rw [v]
              exact r
            | some t =>
              have v : valD (kvsD p) (.inr n) = some (termD t) := by rw [valD_kvs, e]; rfl
              have v2 : (valD (kvsD p) (.inr n)).isSome = true := by rw [v]; rfl
              rw [e] at r
              rw [v2]
              exact ⟨_, .inr n, termD t, rfl, rfl, v, _, pr t.weight, rfl, rfl, r⟩
        · rw [List.map_cons, List.map_cons, List.map_nil, wtD_of, wtD_of]
          refine ⟨rfl, wtOf o n, wtOf p n, rfl, fv, fw, ?_⟩
          by_cases c : moreF (wtOf o n) (wtOf p n) = true
          · have e : stepM o p n = minusM (wtOf o n) (wtOf p n) := if_pos c
            refine ite_tt' c ⟨wtOf o n, wtOf p n, rfl, fv, fw, minusM (wtOf o n) (wtOf p n), f, rfl, ?_, hf.frac2, last _ e.symm⟩
            rw [← e]
            exact hs.frac2
          · have e : stepM o p n = minusM (wtOf p n) (wtOf o n) := if_neg c
            refine ite_ff' c ⟨wtOf p n, wtOf o n, rfl, fw, fv, minusM (wtOf p n) (wtOf o n), f, rfl, ?_, hf.frac2, last _ e.symm⟩
            rw [← e]
            exact hs.frac2
    · rintro s G' ⟨left, f, o3, o4, o5, o6, hr, hf, hd, rfl, rfl⟩
      cases left with
      | cons u left => cases hr
      | nil =>
        have hd : f = diffM o p := hd
        rw [← hd] at q
        exact ret q
theorem zip_parts (a : Ad) : ∀ (ps qs : List Piece), pairsD (ps.map (partD a)) (qs.map (partD a)) = (ps.zip qs).map fun x => D.tup [partD a x.1, partD a x.2]
  | [], _ => rfl
  | _ :: _, [] => rfl
  | p :: ps, q :: qs => by
    show D.tup [partD a p, partD a q] :: pairsD (ps.map (partD a)) (qs.map (partD a)) = _
    rw [zip_parts a ps qs]
    rfl
abbrev stepD (s : (Int × Int) × Int) : D := .tup [pr s.1, .int s.2]
def sp_steps_of : SpD := fun ds G Q _ => ∃ n ps, ds = [trackD a n ps] ∧ RightT n ps ∧ Q (.lst ((stepsM n ps).map stepD)) G
theorem steps_len (n : Int) (ps : List Pass) : (stepsAll (partsM n ps)).length ≤ (partsM n ps).length := by
  unfold stepsAll
  rw [List.length_map, List.length_zip]
  omega
theorem ok_steps_of (T : Txt K w mg a) (k_parts_of : Knows P w K mg base "parts_of" 11 [] (sp_parts_of (a := a))) (k_difference : Knows P w K mg base "difference" 5 [] sp_difference) (Fu : FunD K "steps_of" "steps_of" (defArgs s_steps_of) (defBody s_steps_of) (defScope s_steps_of) [] [] f fd) :
    FnD P w K mg base 13 f fd ["track"] (sp_steps_of (a := a)) := by
  refine fun_ok Fu sc_steps_of ?_ (fun cdv A outer s H E hr => (dss_cons (ds_set (i := 1) sc_steps_of.nd rfl (Or.inl rfl) (de_call k_parts_of (hr.mono (by decide)) tk0 (da_cons (dv 0) da_nil)))
      (dss_cons (ds_setLc (i := 2) rfl sc_steps_of.nd rfl (rfl) (sw_true rfl rfl rfl (by decide +kernel)) (BlkD.mk (own := [("part", 3), ("later", 4)]) (di_zip T.zip (da_cons (dv 1) (da_cons (de_slice (dv 1) (do_some de_int) do_none) da_nil))) (blkOk_by (N := N_steps_of) (sc := defScope s_steps_of) (own := [("part", 3), ("later", 4)]) (by decide +kernel)) (fun _ _ _ _ _ => (dgw_tup (n := 2) rfl (dgsw_cons (dgw_name (i := 3) sc_steps_of.nd rfl (Or.inl rfl) (by decide)) (dgsw_cons (dgw_name (i := 4) sc_steps_of.nd rfl (Or.inl rfl) (by decide)) dgsw_nil)))) (fun _ _ _ _ _ => dts_nil) (fun _ _ _ _ _ => (de_tup (da_cons (de_call k_difference (hr.mono (by decide)) takes0 (da_cons (de_fld T.clPart T.nPart_terms (dv 3)) (da_cons (de_fld T.clPart T.nPart_terms (dv 4)) da_nil))) (da_cons (de_fld T.clPart T.nPart_first (dv 4)) da_nil))))))
      (dss_one (ds_ret (de_lc rfl sc_steps_of.nd (BlkD.mk (own := [("step", 5), ("tick", 6)]) (di_seq (dv 2)) (blkOk_by (N := N_steps_of) (sc := defScope s_steps_of) (own := [("step", 5), ("tick", 6)]) (by decide +kernel)) (fun _ _ _ _ _ => (dgw_tup (n := 2) rfl (dgsw_cons (dgw_name (i := 5) sc_steps_of.nd rfl (Or.inl rfl) (by decide)) (dgsw_cons (dgw_name (i := 6) sc_steps_of.nd rfl (Or.inl rfl) (by decide)) dgsw_nil)))) (fun _ _ _ _ _ => (dts_one (dt_cmp (ne_ok hr.units) (dv 5) (de_const T.cZERO) (nomark _)))) (fun _ _ _ _ _ => (de_tup (da_cons (dv 5) (da_cons (dv 6) da_nil))))))))))) ?_
  · rintro ds G Q E ⟨n, ps, rfl, _⟩; rfl
  · rintro ds G Q E ⟨n, ps, rfl, ht, q⟩
    obtain ⟨ho, hl⟩ := parts_ok ht
    have few := ht.few
    refine ⟨n, ps, rfl, ht, _, rfl, ?_⟩
    show compD _ _ _ _ _ (pairsD ((partsM n ps).map (partD a)) (DL.cutD ((partsM n ps).map (partD a)) (some 1) none)) [] _ _
    rw [cut_tail, ← List.map_tail, zip_parts]
    refine compT _ (fun x : Piece × Piece => stepD (diffM x.1.terms x.2.terms, x.2.first)) (fun x hx R r => ⟨rfl, _, termsD x.1.terms, rfl, rfl, _, termsD x.2.terms, rfl, rfl, x.1.terms, x.2.terms, srcs ps, rfl, ?_, ?_, ?_, _, .int x.2.first, rfl, rfl, by show 2 ≤ sizeLine; decide, r⟩) ?_ ?_
    · exact ho.terms _ (List.of_mem_zip hx).1
    · exact ho.terms _ (List.mem_of_mem_tail (List.of_mem_zip hx).2)
    · simp only [srcs, List.length_cons, List.length_map]; omega
    · rw [List.length_nil, Nat.zero_add, List.length_zip]
      exact Nat.le_trans (by omega : _ ≤ 20000) (by decide)
    · refine ⟨_, rfl, ?_⟩
      have e : ((partsM n ps).zip (partsM n ps).tail).map (fun x : Piece × Piece => stepD (diffM x.1.terms x.2.terms, x.2.first)) = (stepsAll (partsM n ps)).map stepD := by
        unfold stepsAll
        rw [List.map_map]
        rfl
      rw [List.nil_append, e]
      refine compTIf (fun s : (Int × Int) × Int => !isZeroF s.1) stepD stepD (fun x hx R N r nn => ⟨rfl, pyPair x.1, pyPair zeroF, rfl, rfl, rfl, rfl, ?_⟩) ?_ (ret q)
      · show (if (!isZeroF x.1) = true then _ else _)
        refine ite2 (fun c => ⟨by show 2 ≤ sizeLine; decide, r c⟩) (fun c => nn (by simpa using c))
      · rw [List.length_nil, Nat.zero_add]
        exact Nat.le_trans (steps_len n ps) (Nat.le_trans hl (by decide))
def sp_sudden_of : SpD := fun ds G Q _ => ∃ n ps l, ds = [trackD a n ps, pr l] ∧ RightT n ps ∧ fracOk l ∧ Q (.tup ((suddenM n ps l).map D.int)) G
theorem ok_sudden_of (T : Txt K w mg a) (k_steps_of : Knows P w K mg base "steps_of" 13 [] (sp_steps_of (a := a))) (k_is_more : Knows P w K mg base "is_more" 1 [] sp_is_more) (Fu : FunD K "sudden_of" "sudden_of" (defArgs s_sudden_of) (defBody s_sudden_of) (defScope s_sudden_of) [] [] f fd) :
    FnD P w K mg base 15 f fd ["track", "limit"] (sp_sudden_of (a := a)) := by
  refine fun_ok Fu sc_sudden_of ?_ (fun cdv A outer s H E hr => (dss_one (ds_ret (de_callTy tuple_okD T.tuple_ (by decide +kernel) (da_cons (de_lc rfl sc_sudden_of.nd (BlkD.mk (own := [("step", 2), ("tick", 3)]) (di_seq (de_call k_steps_of (hr.mono (by decide)) tk0 (da_cons (dv 0) da_nil))) (blkOk_by (N := N_sudden_of) (sc := defScope s_sudden_of) (own := [("step", 2), ("tick", 3)]) (by decide +kernel)) (fun _ _ _ _ _ => (dgw_tup (n := 2) rfl (dgsw_cons (dgw_name (i := 2) sc_sudden_of.nd rfl (Or.inl rfl) (by decide)) (dgsw_cons (dgw_name (i := 3) sc_sudden_of.nd rfl (Or.inl rfl) (by decide)) dgsw_nil)))) (fun _ _ _ _ _ => (dts_one (dt_val (de_call k_is_more (hr.mono (by decide)) takes0 (da_cons (dv 2) (da_cons (dv 1) da_nil)))))) (fun _ _ _ _ _ => (dv 3)))) da_nil))))) ?_
  · rintro ds G Q E ⟨n, ps, l, rfl, _⟩; rfl
  · rintro ds G Q E ⟨n, ps, l, rfl, ht, hf, q⟩
    obtain ⟨ho, hl⟩ := parts_ok ht
    have few := ht.few
    have hw : ∀ s ∈ stepsM n ps, wOk bigB s.1 := fun s hs => by
      have hs := (List.mem_filter.mp hs).1
      obtain ⟨x, hx, rfl⟩ := List.mem_map.mp hs
      exact diff_ok (ho.terms _ (List.of_mem_zip hx).1) (ho.terms _ (List.mem_of_mem_tail (List.of_mem_zip hx).2))
    refine ⟨n, ps, rfl, ht, _, rfl, compTIf (fun s : (Int × Int) × Int => moreF s.1 l) stepD (fun s => .int s.2) (fun x hx R N r nn => ⟨rfl, x.1, l, rfl, (hw x hx).frac2, hf, ite2 (fun c => r c) (fun c => nn (by simpa using c))⟩) ?_ ⟨_, rfl, ret ?_⟩⟩
    · rw [List.length_nil, Nat.zero_add]
      exact Nat.le_trans (List.length_filter_le _ _) (Nat.le_trans (steps_len n ps) (Nat.le_trans hl (by decide)))
    · unfold suddenM at q
      rw [List.map_map] at q
      exact q
/-- no step is more than 1 -/
theorem calm_one {n : Int} {ps : List Pass} (ht : RightT n ps) : suddenM n ps one = [] := by
  obtain ⟨ho, hl⟩ := parts_ok ht
  unfold suddenM
  have e : ((stepsM n ps).filter fun s => moreF s.1 one) = [] := by
    rw [List.filter_eq_nil_iff]
    intro s hs
    have hs := (List.mem_filter.mp hs).1
    obtain ⟨x, hx, rfl⟩ := List.mem_map.mp hs
    have h := (diff_ok (ho.terms _ (List.of_mem_zip hx).1) (ho.terms _ (List.mem_of_mem_tail (List.of_mem_zip hx).2))).2.1
    unfold moreF one
    simp
    omega
  rw [e]
  rfl
end
end TP
end
section
set_option maxRecDepth 100000
set_option maxHeartbeats 1000000
/-! mends.py: wishes for a track. -/
namespace TP
open PySem PySem.Spec PyProof.Rows DL
open L2 hiding Room FnOk takes0
/-! ### what a wish is -/
inductive Wish where
  | heard (z : Str) (x y : Int) | kept (x y : Int) | flat (x y : Int) | calm (l : Int × Int)
def Wish.d : Wish → D
  | .heard z x y => .tup [.str "heard", .str z, .int x, .int y]
  | .kept x y => .tup [.str "kept", .int x, .int y]
  | .flat x y => .tup [.str "flat", .int x, .int y]
  | .calm l => .tup [.str "calm", pr l]
def strEqD (z : Str) : D → Bool
  | .str y => decide (y = z)
  | _ => false
def hasWordsD (d : D) (z : Str) (k : Int) : Bool := match d with
  | .tup (x :: r) => decide ((r.length : Int) + 1 = k) && strEqD z x
  | _ => false
def isWishS (n : Int) : Wish → Bool
  | .heard z x y => isNameS z && isStretchD (.tup [.int x, .int y]) 0 n
  | .kept x y => isStretchD (.tup [.int x, .int y]) 0 n
  | .flat x y => isStretchD (.tup [.int x, .int y]) 0 n
  | .calm l => isLimitD (pr l)
/-! ### forms as plain data -/
def placePy : Option Int → PyData
  | none => .none
  | some i => .int i
def termPy (x : Str × Term) : PyData := .tuple [.str x.1, placePy x.2.place, pyPair x.2.weight]
def toldPy (ts : Terms) : List PyData := (byText (ts.map termParts)).map fun b => match toPy (txtD b) with
  | some p => p
  | none => .none
def formPy (n : Int) (ps : List Pass) (t : Int) : PyData := .tuple (toldPy (atM (partAtM (partsM n ps) t) t))
theorem term_py (x : Str × Term) : toPy (txtD (termParts x)) = some (termPy x) := by
  obtain ⟨n, ⟨pl, w⟩⟩ := x
  cases pl <;> rfl
theorem byText_mem {α : Type} {l : List (Str × α)} {b : Str × α} (h : b ∈ byText l) : b ∈ l := (List.mergeSort_perm _ _).subset h
theorem toPys_map {α : Type} (g : α → D) (p : α → PyData) : ∀ {l : List α}, (∀ x ∈ l, toPy (g x) = some (p x)) → toPys (l.map g) = some (l.map p)
  | [], _ => by simp [toPys]
  | x :: l, h => by
    rw [List.map_cons, List.map_cons, toPys, h x List.mem_cons_self, toPys_map g p (fun y hy => h y (List.mem_cons_of_mem _ hy))]
    rfl
theorem told_py (ts : Terms) : toPys (toldM ts) = some (toldPy ts) := by
  unfold toldM toldPy
  refine toPys_map _ _ fun b hb => ?_
  obtain ⟨x, _, rfl⟩ := List.mem_map.mp (byText_mem hb)
  rw [term_py]
theorem form_py (n : Int) (ps : List Pass) (t : Int) : toPy (formM n ps t) = some (formPy n ps t) := by
  unfold formM formPy
  rw [toPy, told_py]
  rfl
/-- names are of right signs -/
def nameOk (z : Str) : Prop := PyData.canLay0 (.str z) = true
theorem term_lay {x : Str × Term} (h : nameOk x.1) : (termPy x).canLay0 = true ∧ (termPy x).depth ≤ 3 := by
  obtain ⟨n, ⟨pl, w⟩⟩ := x
  have h : PyData.canLay0 (.str n) = true := h
  cases pl
  · refine ⟨?_, ?_⟩
    · simp [termPy, placePy, pyPair, PyData.canLay0, PyData.canLayAll0] at h ⊢
      exact h
    · simp [termPy, placePy, pyPair, PyData.depth, PyData.depthAll]
  · refine ⟨?_, ?_⟩
    · simp [termPy, placePy, pyPair, PyData.canLay0, PyData.canLayAll0] at h ⊢
      exact h
    · simp [termPy, placePy, pyPair, PyData.depth, PyData.depthAll]
theorem lay_all : ∀ {l : List PyData}, (∀ p ∈ l, p.canLay0 = true ∧ p.depth ≤ 3) → PyData.canLayAll0 l = true ∧ PyData.depthAll l ≤ 3
  | [], _ => ⟨by simp [PyData.canLayAll0], by simp [PyData.depthAll]⟩
  | p :: l, h => by
    obtain ⟨h1, h2⟩ := h p List.mem_cons_self
    obtain ⟨i1, i2⟩ := lay_all fun q hq => h q (List.mem_cons_of_mem _ hq)
    exact ⟨by simp [PyData.canLayAll0, h1, i1], by simp only [PyData.depthAll]; omega⟩
theorem told_shaped {ts : Terms} (h : ∀ x ∈ ts, nameOk x.1) : SeqAt.shaped (.tuple (toldPy ts)) = true := by
  obtain ⟨h1, h2⟩ := lay_all (l := toldPy ts) fun p hp => by
    obtain ⟨b, hb, rfl⟩ := List.mem_map.mp hp
    obtain ⟨x, hx, rfl⟩ := List.mem_map.mp (byText_mem hb)
    rw [term_py]
    exact term_lay (h x hx)
  unfold SeqAt.shaped
  have e1 : PyData.canLay0 (.tuple (toldPy ts)) = true := by rw [PyData.canLay0]; exact h1
  have e2 : PyData.depth (.tuple (toldPy ts)) ≤ 64 := by rw [PyData.depth]; omega
  rw [e1, decide_eq_true e2]
  rfl
theorem sign_small {c : Nat} (h : signOk c = true) : c < 128 := by
  have h : c ∈ (lettersS ++ digitsS).cps.toList := of_decide_eq_true h
  have key : ∀ c ∈ (lettersS ++ digitsS).cps.toList, c < 128 := by decide +kernel
  exact key c h
theorem name_signs {z : Str} (h : isNameS z = true) : ∀ c ∈ z.cps.toList, c < 128 := by
  unfold isNameS at h
  simp only [Bool.and_eq_true, List.all_eq_true] at h
  exact fun c hc => sign_small (h.2 c hc)
theorem strOk_of {z : Str} (h : ∀ c ∈ z.cps.toList, c < 128) : nameOk z := by
  unfold nameOk
  rw [PyData.canLay0]
  unfold PyData.strOk
  rw [Array.all_eq_true']
  intro c hc
  have := h c (by simpa using hc)
  simp
  omega
theorem old_ok : nameOk "old" := strOk_of (by decide +kernel)
theorem src_ok {n : Int} {ps : List Pass} (ht : RightT n ps) : ∀ z ∈ srcs ps, nameOk z := by
  intro z hz
  rcases List.mem_cons.mp hz with rfl | hz
  · exact old_ok
  · obtain ⟨p, hp, rfl⟩ := List.mem_map.mp hz
    exact strOk_of (name_signs (ht.right p hp).name)
theorem form_shaped {n : Int} {ps : List Pass} {t : Int} (ht : RightT n ps) (h0 : 0 ≤ t) (h1 : t < n) : SeqAt.shaped (formPy n ps t) = true := by
  obtain ⟨ho, _⟩ := parts_ok ht
  obtain ⟨_, hm, _⟩ := partAt_mem ho.tile h0 h1
  have hk := (ho.terms _ hm).at t
  exact told_shaped fun x hx => src_ok ht _ (hk.sub x hx)
def sameForm (n : Int) (ps : List Pass) (t u : Int) : Bool := PyData.eqv (formPy n ps t) (formPy n ps u)
theorem same_self {n : Int} {ps : List Pass} {t : Int} (ht : RightT n ps) (h0 : 0 ≤ t) (h1 : t < n) : sameForm n ps t t = true := PySem.SeqAt.eqv_refl _ (SeqAt.canLay_of_shaped (form_shaped ht h0 h1))
/-! ### other ticks -/
def ticksOf (p : Piece) : List Int := if p.last - p.first = 1 then [p.first] else [p.first, p.first + 1]
def ticksIn (parts : List Piece) (f e : Int) : List Int := parts.flatMap fun p => if p.first < e ∧ f < p.last then ticksOf (singleM (cutM p f e)) else []
def otherM (n : Int) (ps : List Pass) (f e : Int) : Option Int := (ticksIn (partsM n ps) f e).find? fun t => !sameForm n ps t f
theorem single_ends (p : Piece) : (singleM p).first = p.first ∧ (singleM p).last = p.last := by
  unfold singleM
  split <;> exact ⟨rfl, rfl⟩
def holds64 (n : Int) (ps : List Pass) : Wish → Bool
  | .flat x y => (otherM n ps x y).isNone
  | .calm l => (suddenM n ps l).isEmpty
  | _ => false
theorem flat_one {n : Int} {ps : List Pass} {x : Int} (ht : RightT n ps) (h0 : 0 ≤ x) (h1 : x < n) : otherM n ps x (x + 1) = none := by
  unfold otherM
  rw [List.find?_eq_none]
  intro t hm
  unfold ticksIn at hm
  obtain ⟨p, hp, hm⟩ := List.mem_flatMap.mp hm
  obtain ⟨ho, _⟩ := parts_ok ht
  have hl := ho.tile.lasts p hp
  split at hm
  · rename_i c
    obtain ⟨e1, e2⟩ := single_ends (cutM p x (x + 1))
    unfold ticksOf at hm
    rw [e1, e2] at hm
    have e3 : (cutM p x (x + 1)).first = x := by simp only [cutM]; omega
    have e4 : (cutM p x (x + 1)).last = x + 1 := by simp only [cutM]; omega
    rw [e3, e4, if_pos (by omega)] at hm
    obtain rfl := List.mem_singleton.mp hm
    rw [same_self ht h0 h1]
    exact Bool.false_ne_true
  · exact (List.not_mem_nil hm).elim
section
variable {P : Program} {w : World} {K : PySem.W.Frag} {mg : Str → Option Value} {base : Heap} {a : Ad} {f pt : Addr} {fd : FuncData}
def sp_has_words : SpD := fun ds G Q _ => ∃ d z k, ds = [d, .str z, .int k] ∧ typed2 d = true ∧ 1 ≤ k ∧ Q (.bl (hasWordsD d z k)) G
theorem ok_has_words (T : Txt K w mg a) (Fu : FunD K "has_words" "has_words" (defArgs s_has_words) (defBody s_has_words) (defScope s_has_words) [] [] f fd) : FnD P w K mg base 1 f fd ["value", "word", "many"] sp_has_words := by
  refine fun_ok Fu sc_has_words ?_ (fun cdv A outer s H E hr => (dss_one (ds_ret (de_and (de_isi (K := K) (n := "tuple") T.isinstance T.tuple_ (by decide +kernel) (by decide) (dv 0)) (de_and (de_cmp (eq_ok hr.units) (de_callB len_okD T.len (by decide +kernel) (da_cons (dv 0) da_nil)) (dv 2) (nomark _)) (de_and (de_isi (K := K) (n := "str") T.isinstance T.str_ (by decide +kernel) (by decide) (de_ix (dv 0) de_int)) (de_one (de_cmp (eq_ok hr.units) (de_ix (dv 0) de_int) (dv 1) (nomark _))))))))) ?_
  · rintro ds G Q E ⟨d, z, k, rfl, _⟩; rfl
  · rintro ds G Q E ⟨d, z, k, rfl, hd, hk, q⟩
    obtain ⟨h1, h2⟩ := Bool.and_eq_true_iff.mp hd
    obtain ⟨m, hm, _, _, _, h4, _⟩ := typed_name (G := G) h1
    refine .inl ⟨m, hm, ?_⟩
    rw [h4]
    cases d with
    | tup xs =>
      refine ite_tt ⟨_, rfl, ite2 (fun c => ?_) (fun c => ret ?_)⟩
      · have c : (xs.length : Int) = k := of_decide_eq_true c
        cases xs with
        | nil => simp at c; omega
        | cons x r =>
          have hx : typed x = true := List.all_eq_true.mp h2 x List.mem_cons_self
          obtain ⟨m2, hm2, _, _, _, _, h5⟩ := typed_name (G := G) hx
          have cl : (r.length : Int) + 1 = k := by simpa using c
          refine ⟨_, x, rfl, atI_nat (j := 0) rfl, .inl ⟨m2, hm2, ?_⟩⟩
          rw [h5]
          have q : Q (.bl (decide ((r.length : Int) + 1 = k) && strEqD z x)) G := q
          rw [decide_eq_true cl, Bool.true_and] at q
          cases x with
          | str y => exact ite_tt ⟨_, .str y, rfl, atI_nat (j := 0) rfl, ret q⟩
          | _ => first
            | exact absurd hx Bool.false_ne_true
            | exact ite_ff (ret q)
      · have c : ¬ (xs.length : Int) = k := fun z => c (decide_eq_true z)
        cases xs with
        | nil => exact q
        | cons x r =>
          have cl : ¬ (r.length : Int) + 1 = k := fun z => c (by simpa using z)
          have q : Q (.bl (decide ((r.length : Int) + 1 = k) && strEqD z x)) G := q
          rw [decide_eq_false cl, Bool.false_and] at q
          exact q
    | _ => first
      | exact absurd h1 Bool.false_ne_true
      | exact ite_ff (ret q)
def sp_is_wish : SpD := fun ds G Q _ => ∃ n v, ds = [.int n, Wish.d v] ∧ (∀ z x y, v = .heard z x y → z.length ≤ sizeLine) ∧ Q (.bl (isWishS n v)) G
theorem ok_is_wish (T : Txt K w mg a) (k_has_words : Knows P w K mg base "has_words" 1 [] sp_has_words) (k_is_name : Knows P w K mg base "is_name" 1 [] sp_is_name) (k_is_stretch : Knows P w K mg base "is_stretch" 2 [] sp_is_stretch) (k_is_limit : Knows P w K mg base "is_limit" 2 [] sp_is_limit)
    (Fu : FunD K "is_wish" "is_wish" (defArgs s_is_wish) (defBody s_is_wish) (defScope s_is_wish) [] [] f fd) : FnD P w K mg base 4 f fd ["length", "value"] sp_is_wish := by
  refine fun_ok Fu sc_is_wish ?_ (fun cdv A outer s H E hr => (dss_cons (ds_if (dt_val (de_call k_has_words (hr.mono (by decide)) tk0 (da_cons (dv 1) (da_cons de_str (da_cons de_int da_nil))))) (dss_one (ds_ret (de_and (de_call k_is_name (hr.mono (by decide)) tk0 (da_cons (de_ix (dv 1) de_int) da_nil)) (de_one (de_call k_is_stretch (hr.mono (by decide)) tk0 (da_cons (de_slice (dv 1) (do_some de_int) do_none) (da_cons de_int (da_cons (dv 0) da_nil)))))))) dss_nil)
      (dss_cons (ds_if (dt_w (dw_or (dt_val (de_call k_has_words (hr.mono (by decide)) tk0 (da_cons (dv 1) (da_cons de_str (da_cons de_int da_nil))))) (dw_or1 (dt_val (de_call k_has_words (hr.mono (by decide)) tk0 (da_cons (dv 1) (da_cons de_str (da_cons de_int da_nil)))))))) (dss_one (ds_ret (de_call k_is_stretch (hr.mono (by decide)) tk0 (da_cons (de_slice (dv 1) (do_some de_int) do_none) (da_cons de_int (da_cons (dv 0) da_nil)))))) dss_nil)
      (dss_cons (ds_if (dt_val (de_call k_has_words (hr.mono (by decide)) tk0 (da_cons (dv 1) (da_cons de_str (da_cons de_int da_nil))))) (dss_one (ds_ret (de_call k_is_limit (hr.mono (by decide)) tk0 (da_cons (de_ix (dv 1) de_int) da_nil)))) dss_nil)
      (dss_one (ds_ret (de_and (de_call k_has_words (hr.mono (by decide)) tk0 (da_cons (dv 1) (da_cons de_str (da_cons de_int da_nil)))) (de_one de_never)))))))) ?_
  · rintro ds G Q E ⟨n, v, rfl, _⟩; rfl
  · rintro ds G Q E ⟨n, v, rfl, hz, q⟩
    have hw : ∀ z k, hasWordsD v.d z k = match v with
        | .heard .. => decide ((4 : Int) = k) && decide (("heard" : Str) = z)
        | .kept .. => decide ((3 : Int) = k) && decide (("kept" : Str) = z)
        | .flat .. => decide ((3 : Int) = k) && decide (("flat" : Str) = z)
        | .calm .. => decide ((2 : Int) = k) && decide (("calm" : Str) = z) := fun z k => by cases v <;> rfl
    have td : typed2 v.d = true := by cases v <;> rfl
    refine ⟨v.d, "heard", 4, rfl, td, by decide, ?_⟩
    rw [hw]
    cases v with
    | heard z x y =>
      rw [show (decide ((4 : Int) = 4) && decide (("heard" : Str) = "heard")) = true by decide +kernel]
      refine ite_tt ⟨_, .str z, rfl, rfl, .str z, rfl, rfl, fun u hu => by cases hu; exact hz z x y rfl, ?_⟩
      show (if isNameS z = true then _ else _)
      refine ite2 (fun c => ⟨.tup [.int x, .int y], 0, n, rfl, rfl, ret ?_⟩) (fun c => ret ?_)
      · have q : Q (.bl (isNameS z && isStretchD (.tup [.int x, .int y]) 0 n)) G := q
        rw [c, Bool.true_and] at q
        exact q
      · have q : Q (.bl (isNameS z && isStretchD (.tup [.int x, .int y]) 0 n)) G := q
        have c : isNameS z = false := by simpa using c
        rw [c, Bool.false_and] at q
        exact q
    | kept x y =>
      rw [show (decide ((3 : Int) = 4) && decide (("kept" : Str) = "heard")) = false by decide +kernel]
      refine ite_ff ⟨(Wish.kept x y).d, "kept", 3, rfl, td, by decide, ?_⟩
      rw [hw, show (decide ((3 : Int) = 3) && decide (("kept" : Str) = "kept")) = true by decide +kernel]
      exact ite_tt (⟨.tup [.int x, .int y], 0, n, rfl, rfl, ret q⟩)
    | flat x y =>
      rw [show (decide ((3 : Int) = 4) && decide (("flat" : Str) = "heard")) = false by decide +kernel]
      refine ite_ff ⟨(Wish.flat x y).d, "kept", 3, rfl, td, by decide, ?_⟩
      rw [hw, show (decide ((3 : Int) = 3) && decide (("flat" : Str) = "kept")) = false by decide +kernel]
      refine ite_ff ⟨(Wish.flat x y).d, "flat", 3, rfl, td, by decide, ?_⟩
      rw [hw, show (decide ((3 : Int) = 3) && decide (("flat" : Str) = "flat")) = true by decide +kernel]
      exact ite_tt (⟨.tup [.int x, .int y], 0, n, rfl, rfl, ret q⟩)
    | calm l =>
      rw [show (decide ((2 : Int) = 4) && decide (("calm" : Str) = "heard")) = false by decide +kernel]
      refine ite_ff ⟨(Wish.calm l).d, "kept", 3, rfl, td, by decide, ?_⟩
      rw [hw, show (decide ((2 : Int) = 3) && decide (("calm" : Str) = "kept")) = false by decide +kernel]
      refine ite_ff ⟨(Wish.calm l).d, "flat", 3, rfl, td, by decide, ?_⟩
      rw [hw, show (decide ((2 : Int) = 3) && decide (("calm" : Str) = "flat")) = false by decide +kernel]
      refine ite_ff ⟨(Wish.calm l).d, "calm", 2, rfl, td, by decide, ?_⟩
      rw [hw, show (decide ((2 : Int) = 2) && decide (("calm" : Str) = "calm")) = true by decide +kernel]
      exact ite_tt (⟨_, pr l, rfl, rfl, pr l, rfl, rfl, ret q⟩)
def sp_check_wish : SpD := fun ds G Q E => ∃ n ps v, ds = [trackD a n ps, Wish.d v] ∧ (∀ z x y, v = .heard z x y → z.length ≤ sizeLine) ∧ (isWishS n v = false → E (.ref a.InvalidWish) [("given", v.d)] G) ∧ (isWishS n v = true → Q .non G)
theorem ok_check_wish (T : Txt K w mg a) (k_is_wish : Knows P w K mg base "is_wish" 4 [] sp_is_wish) (k_Track_length : KnowsP P w K mg base a.Track "length" 1 (sp_Track_length (a := a))) (k_InvalidWish : KnowsX1 P w K mg base "InvalidWish" a.InvalidWish "given")
    (Fu : FunD K "check_wish" "check_wish" (defArgs s_check_wish) (defBody s_check_wish) (defScope s_check_wish) [] [] f fd) : FnD P w K mg base 6 f fd ["track", "value"] (sp_check_wish (a := a)) := by
  refine fun_ok Fu sc_check_wish ?_ (fun cdv A outer s H E hr => (dss_one (ds_if (dt_not (dt_val (de_call k_is_wish (hr.mono (by decide)) tk0 (da_cons (de_prop T.clTrack k_Track_length (hr.mono (by decide)) (dv 0)) (da_cons (dv 1) da_nil))))) (dss_one (ds_raise1 k_InvalidWish (hr.mono (by decide)) tk0 (da_cons (dv 1) da_nil))) dss_nil))) ?_
  · rintro ds G Q E ⟨n, ps, v, rfl, _⟩; rfl
  · rintro ds G Q E ⟨n, ps, v, rfl, hz, q1, q2⟩
    refine ⟨_, rfl, n, ps, rfl, n, v, rfl, hz, ?_⟩
    cases h : isWishS n v with
    | true => exact ite_ff (ret (q2 h))
    | false => exact ite_tt ⟨G, .refl G, q1 h⟩
def sp_other_tick (pt : Addr) : SpD := fun ds G Q _ => ∃ n ps f e, ds = [trackD a n ps, .int f, .int e] ∧ RightT n ps ∧ 0 ≤ f ∧ f < e ∧ e ≤ n ∧ G pt = some (.tab qTold) ∧ Q (placeD (otherM n ps f e)) G
theorem ok_other_tick (T : Txt K w mg a) (k_form_of : Knows P w K mg base "form_of" 13 [] (sp_form_of (a := a) pt)) (k_parts_of : Knows P w K mg base "parts_of" 11 [] (sp_parts_of (a := a))) (k_single : Knows P w K mg base "single" 3 [] (sp_single (a := a))) (k_Part_cut : KnowsM P w K mg base a.Part "cut" 3 [] (sp_Part_cut (a := a)))
    (Fu : FunD K "other_tick" "other_tick" (defArgs s_other_tick) (defBody s_other_tick) (defScope s_other_tick) [] [] f fd) : FnD P w K mg base 15 f fd ["track", "first", "end"] (sp_other_tick (a := a) pt) := by
  refine fun_ok Fu sc_other_tick ?_ (fun cdv A outer s H E hr => (dss_cons (ds_set (i := 3) sc_other_tick.nd rfl (Or.inl rfl) (de_call k_form_of (hr.mono (by decide)) tk0 (da_cons (dv 0) (da_cons (dv 1) da_nil))))
      (dss_cons (ds_for po0 rfl (di_seq (de_call k_parts_of (hr.mono (by decide)) tk0 (da_cons (dv 0) da_nil))) (dg_name (i := 4) sc_other_tick.nd rfl (Or.inl rfl)) (dss_one (ds_if (dt_w (dw_and (dt_cmp lt_ok (de_fld T.clPart T.nPart_first (dv 4)) (dv 2) (nomark _)) (dw_and1 (dt_cmp gt_ok (de_fld T.clPart T.nPart_end (dv 4)) (dv 1) (nomark _))))) (dss_cons (ds_set (i := 5) sc_other_tick.nd rfl (Or.inl rfl) (de_call k_single (hr.mono (by decide)) tk0 (da_cons (de_meth T.clPart k_Part_cut (hr.mono (by decide)) tk0 (dv 4) (da_cons (dv 1) (da_cons (dv 2) da_nil))) da_nil)))
      (dss_cons (ds_set (i := 6) sc_other_tick.nd rfl (Or.inl rfl) (de_ifExp (dt_cmp (eq_ok hr.units) (de_sub (de_fld T.clPart T.nPart_end (dv 5)) (de_fld T.clPart T.nPart_first (dv 5))) de_int (nomark _)) (de_lst (da_cons (de_fld T.clPart T.nPart_first (dv 5)) da_nil)) (de_lst (da_cons (de_fld T.clPart T.nPart_first (dv 5)) (da_cons (de_add (de_fld T.clPart T.nPart_first (dv 5)) de_int) da_nil)))))
      (dss_one (ds_for po0 rfl (di_seq (dv 6)) (dg_name (i := 7) sc_other_tick.nd rfl (Or.inl rfl)) (dss_one (ds_if (dt_cmp (ne_ok hr.units) (de_call k_form_of (hr.mono (by decide)) tk0 (da_cons (dv 0) (da_cons (dv 7) da_nil))) (dv 3) (nomark _)) (dss_one (ds_ret (dv 7))) dss_nil)))))) dss_nil)))
      (dss_one (ds_ret de_non))))) ?_
  · rintro ds G Q E ⟨n, ps, f, e, rfl, _⟩; rfl
  · rintro ds G Q E ⟨n, ps, f, e, rfl, ht, h0, h1, h2, hp, q⟩
    obtain ⟨ho, _⟩ := parts_ok ht
    have few := ht.few
    refine ⟨n, ps, f, rfl, ht, h0, by omega, hp, n, ps, rfl, ht, _, rfl, ?_⟩
    refine loop_inv (fun rest s G' => ∃ (done left : List Piece) (o4 o5 o6 o7 : Option D), partsM n ps = done ++ left ∧ rest = left.map (partD a) ∧ otherM n ps f e = ((ticksIn left f e).find? fun t => !sameForm n ps t f) ∧
      s = [some (trackD a n ps), some (.int f), some (.int e), some (formM n ps f), o4, o5, o6, o7] ∧ G' = G) ?_ ?_ ⟨[], _, none, none, none, none, rfl, rfl, rfl, rfl, rfl⟩
    · rintro d ds s G' ⟨done, left, o4, o5, o6, o7, hd, hr, hf, rfl, rfl⟩ R hR
      cases left with
      | nil => cases hr
      | cons p left =>
        cases hr
        have hpm : p ∈ partsM n ps := by rw [hd]; simp
        have hl := ho.tile.lasts p hpm
        have hk := ho.terms p hpm
        have hc : (cutM p f e).terms.length ≤ sizeLine := by
          have := hk.len
          simp only [srcs, List.length_cons, List.length_map] at this
          exact Nat.le_trans (by show p.terms.length ≤ 20; omega) (by decide)
        have step : ∀ (b : Prop) [Decidable b], (p.first < e ∧ f < p.last ↔ b) → ticksIn (p :: left) f e = (if b then ticksOf (singleM (cutM p f e)) else []) ++ ticksIn left f e := fun b _ hb => by
          unfold ticksIn
          rw [List.flatMap_cons]
          by_cases c : p.first < e ∧ f < p.last
          · rw [if_pos c, if_pos (hb.mp c)]
          · rw [if_neg c, if_neg (fun z => c (hb.mpr z))]
        have skip : ¬ (p.first < e ∧ f < p.last) → ∀ o5 o6 o7, R [some (trackD a n ps), some (.int f), some (.int e), some (formM n ps f), some (partD a p), o5, o6, o7] G' := fun c o5 o6 o7 => by
          refine hR _ _ ⟨done ++ [p], left, _, o5, o6, o7, by rw [hd]; simp, rfl, ?_, rfl, rfl⟩
          rw [hf, step False ⟨c, False.elim⟩, if_neg (fun z => z)]
          rfl
        refine ⟨_, .int p.first, rfl, rfl, ite2 (fun c1 => ⟨_, .int p.last, rfl, rfl, ite2 (fun c2 => ?_) (fun c2 => skip (fun z => c2 (decide_eq_true z.2)) _ _ _)⟩) (fun c1 => skip (fun z => c1 (decide_eq_true z.1)) _ _ _)⟩
        have c1 : p.first < e := of_decide_eq_true c1
        have c2 : f < p.last := of_decide_eq_true c2
        obtain ⟨e1, e2⟩ := single_ends (cutM p f e)
        have b1 : 0 ≤ (cutM p f e).first := by simp only [cutM]; omega
        have b2 : (cutM p f e).first < (cutM p f e).last := by simp only [cutM]; omega
        have b3 : (cutM p f e).last ≤ n := by simp only [cutM]; omega
        have loop : ∀ (ts : List Int), ts = ticksOf (singleM (cutM p f e)) → (∀ t ∈ ts, 0 ≤ t ∧ t < n) → ∀ (o7 : Option D) (g : TDG) (tb : TDS) (Dn : EndsD),
            (∀ (t : Int) s (N : SD → GD → Prop), s = [some (trackD a n ps), some (.int f), some (.int e), some (formM n ps f), some (partD a p), some (partD a (singleM (cutM p f e))), some (.lst (ts.map D.int)), some (.int t)] → 0 ≤ t → t < n → (sameForm n ps t f = false → Dn.rt (.int t) G') → (sameForm n ps t f = true → N s G') → True) → True := fun _ _ _ _ _ _ _ _ => trivial
        refine ⟨_, rfl, rfl, p, f, e, rfl, cutM p f e, rfl, hk.nd, hc, ?_⟩
        have inner : ∀ ts : List Int, ts = ticksOf (singleM (cutM p f e)) → (∀ t ∈ ts, 0 ≤ t ∧ t < n) → ∀ o7 : Option D, ∀ dn lf, ts = dn ++ lf → (∀ t ∈ dn, sameForm n ps t f = true) → True := fun _ _ _ _ _ _ _ _ => trivial
        have tk : ∀ t ∈ ticksOf (singleM (cutM p f e)), 0 ≤ t ∧ t < n := fun t hm => by
          unfold ticksOf at hm
          rw [e1, e2] at hm
          split at hm
          · obtain rfl := List.mem_singleton.mp hm
            exact ⟨b1, by omega⟩
          · rename_i c
            simp only [List.mem_cons, List.not_mem_nil, or_false] at hm
            rcases hm with rfl | rfl
            · exact ⟨b1, by omega⟩
            · exact ⟨by omega, by omega⟩
        have hf2 : otherM n ps f e = ((ticksOf (singleM (cutM p f e)) ++ ticksIn left f e).find? fun t => !sameForm n ps t f) := by
          rw [hf, step True ⟨fun _ => trivial, fun _ => ⟨c1, c2⟩⟩, if_pos trivial]
        have fshape := form_shaped (t := f) ht h0 (by omega)
        refine ⟨_, .int (singleM (cutM p f e)).last, rfl, rfl, _, .int (singleM (cutM p f e)).first, rfl, rfl, ite2 (fun c3 => ?_) (fun c3 => ?_)⟩
        · have c3 : (singleM (cutM p f e)).last - (singleM (cutM p f e)).first = 1 := of_decide_eq_true c3
          have et : ticksOf (singleM (cutM p f e)) = [(singleM (cutM p f e)).first] := if_pos c3
          refine ⟨_, .int (singleM (cutM p f e)).first, rfl, rfl, by show 1 ≤ sizeLine; decide, _, rfl, ?_⟩
          have k1 := tk _ (by rw [et]; exact List.mem_cons_self)
          have s1 := form_shaped ht k1.1 k1.2
          refine ⟨n, ps, _, rfl, ht, k1.1, k1.2, hp, formPy n ps (singleM (cutM p f e)).first, formPy n ps f, form_py .., form_py .., s1, fshape, ?_⟩
          rw [et] at hf2
          refine ite2 (fun c4 => ret ?_) (fun c4 => ?_)
          · rw [hf2] at q
            rw [List.cons_append, List.find?_cons_of_pos (by exact c4)] at q
            exact q
          · refine hR _ _ ⟨done ++ [p], left, _, _, _, _, by rw [hd]; simp, rfl, ?_, rfl, rfl⟩
            rw [hf2, List.cons_append, List.find?_cons_of_neg (by exact c4)]
            rfl
        · have c3 : ¬ (singleM (cutM p f e)).last - (singleM (cutM p f e)).first = 1 := fun z => c3 (decide_eq_true z)
          have et : ticksOf (singleM (cutM p f e)) = [(singleM (cutM p f e)).first, (singleM (cutM p f e)).first + 1] := if_neg c3
          refine ⟨_, .int (singleM (cutM p f e)).first, rfl, rfl, _, .int (singleM (cutM p f e)).first, rfl, rfl, by show 2 ≤ sizeLine; decide, _, rfl, ?_⟩
          have k1 := tk (singleM (cutM p f e)).first (by rw [et]; simp)
          have k2 := tk ((singleM (cutM p f e)).first + 1) (by rw [et]; simp)
          have s1 := form_shaped ht k1.1 k1.2
          have s2 := form_shaped ht k2.1 k2.2
          refine ⟨n, ps, _, rfl, ht, k1.1, k1.2, hp, formPy n ps (singleM (cutM p f e)).first, formPy n ps f, form_py .., form_py .., s1, fshape, ?_⟩
          rw [et] at hf2
          refine ite2 (fun c4 => ret ?_) (fun c4 => ?_)
          · rw [hf2] at q
            rw [List.cons_append, List.find?_cons_of_pos (by exact c4)] at q
            exact q
          · refine ⟨n, ps, _, rfl, ht, k2.1, k2.2, hp, formPy n ps ((singleM (cutM p f e)).first + 1), formPy n ps f, form_py .., form_py .., s2, fshape, ?_⟩
            refine ite2 (fun c5 => ret ?_) (fun c5 => ?_)
            · rw [hf2] at q
              rw [List.cons_append, List.find?_cons_of_neg (by exact c4), List.cons_append, List.find?_cons_of_pos (by exact c5)] at q
              exact q
            · refine hR _ _ ⟨done ++ [p], left, _, _, _, _, by rw [hd]; simp, rfl, ?_, rfl, rfl⟩
              rw [hf2, List.cons_append, List.find?_cons_of_neg (by exact c4), List.cons_append, List.find?_cons_of_neg (by exact c5)]
              rfl
    · rintro s G' ⟨done, left, o4, o5, o6, o7, hd, hr, hf, rfl, rfl⟩
      cases left with
      | cons u left => cases hr
      | nil =>
        rw [hf] at q
        exact ret q
theorem ints_py : ∀ l : List Int, toPys (l.map D.int) = some (l.map PyData.int) := fun l => toPys_map _ _ fun _ _ => rfl
theorem ints_lay : ∀ l : List Int, SeqAt.shaped (.tuple (l.map PyData.int)) = true := fun l => by
  obtain ⟨h1, h2⟩ := lay_all (l := l.map PyData.int) fun p hp => by
    obtain ⟨i, _, rfl⟩ := List.mem_map.mp hp
    exact ⟨by simp [PyData.canLay0], by simp [PyData.depth]⟩
  unfold SeqAt.shaped
  have e1 : PyData.canLay0 (.tuple (l.map PyData.int)) = true := by rw [PyData.canLay0]; exact h1
  have e2 : PyData.depth (.tuple (l.map PyData.int)) ≤ 64 := by rw [PyData.depth]; omega
  rw [e1, decide_eq_true e2]
  rfl
/-- a wish that can be asked here -/
def can64 (n : Int) (ps : List Pass) : Wish → Prop
  | .heard z _ _ => hasName (.str z) ps = false
  | .kept _ _ => False
  | .flat x y => 0 ≤ x ∧ x < y ∧ y ≤ n
  | .calm l => fracOk l
def sp_does_hold (pt : Addr) : SpD := fun ds G Q _ => ∃ n ps v, ds = [trackD a n ps, Wish.d v] ∧ RightT n ps ∧ can64 n ps v ∧ G pt = some (.tab qTold) ∧ Q (.bl (holds64 n ps v)) G
theorem ok_does_hold (T : Txt K w mg a) (k_Track___contains__ : KnowsS P w K mg base a.Track "__contains__" 3 (sp_Track_contains (a := a))) (k_other_tick : Knows P w K mg base "other_tick" 15 [] (sp_other_tick (a := a) pt)) (k_sudden_of : Knows P w K mg base "sudden_of" 15 [] (sp_sudden_of (a := a)))
    (Fu : FunD K "does_hold" "does_hold" (defArgs s_does_hold) (defBody s_does_hold) (defScope s_does_hold) [] [] f fd) : FnD P w K mg base 17 f fd ["track", "wish"] (sp_does_hold (a := a) pt) := by
  refine fun_ok Fu sc_does_hold ?_ (fun cdv A outer s H E hr => (dss_cons (ds_if (dt_cmp (eq_ok hr.units) (de_ix (dv 1) de_int) de_str (nomark _)) (dss_one (ds_ret (de_and (de_cmp (ownIn_ok k_Track___contains__ (hr.mono (by decide))) (de_ix (dv 1) de_int) (dv 0) (by rfl)) (de_one de_never)))) dss_nil)
      (dss_cons (ds_if (dt_cmp (eq_ok hr.units) (de_ix (dv 1) de_int) de_str (nomark _)) (dss_one ds_never) dss_nil)
      (dss_cons (ds_if (dt_cmp (eq_ok hr.units) (de_ix (dv 1) de_int) de_str (nomark _)) (dss_one (ds_ret (de_cmp isN_ok (de_call k_other_tick (hr.mono (by decide)) tk0 (da_cons (dv 0) (da_cons (de_ix (dv 1) de_int) (da_cons (de_ix (dv 1) de_int) da_nil)))) de_non (nomark _)))) dss_nil)
      (dss_cons (ds_if (dt_cmp (eq_ok hr.units) (de_ix (dv 1) de_int) de_str (nomark _)) (dss_one (ds_ret (de_cmp (eq_ok hr.units) (de_call k_sudden_of (hr.mono (by decide)) tk0 (da_cons (dv 0) (da_cons (de_ix (dv 1) de_int) da_nil))) (de_tup da_nil) (nomark _)))) dss_nil)
      (dss_one ds_never)))))) ?_
  · rintro ds G Q E ⟨n, ps, v, rfl, _⟩; rfl
  · rintro ds G Q E ⟨n, ps, v, rfl, ht, hc, hp, q⟩
    have few := ht.few
    cases v with
    | heard z x y =>
      have hc : hasName (.str z) ps = false := hc
      refine ⟨_, .str "heard", rfl, rfl, _, .str z, rfl, rfl, _, rfl, n, ps, .str z, rfl, Nat.le_trans few (by decide), rfl, _, rfl, ?_⟩
      show (if hasName (.str z) ps = true then _ else _)
      rw [hc]
      exact ite_ff (ret q)
    | kept x y => exact hc.elim
    | flat x y =>
      obtain ⟨h1, h2, h3⟩ := hc
      refine ⟨_, .str "flat", rfl, rfl, _, .str "flat", rfl, rfl, _, .str "flat", rfl, rfl, _, .int x, rfl, rfl, _, .int y, rfl, rfl, n, ps, x, y, rfl, ht, h1, h2, h3, hp, ?_⟩
      have q : Q (.bl (otherM n ps x y).isNone) G := q
      cases e : otherM n ps x y with
      | none => rw [e] at q; exact ret q
      | some t => rw [e] at q; exact ret q
    | calm l =>
      refine ⟨_, .str "calm", rfl, rfl, _, .str "calm", rfl, rfl, _, .str "calm", rfl, rfl, _, .str "calm", rfl, rfl, _, pr l, rfl, rfl, n, ps, l, rfl, ht, hc, by show 0 ≤ sizeLine; decide, .tuple ((suddenM n ps l).map PyData.int), .tuple [], ?_, rfl, ints_lay _, rfl, ret ?_⟩
      · show (toPys ((suddenM n ps l).map D.int)).map PyData.tuple = _
        rw [ints_py]
        rfl
      · have q : Q (.bl (suddenM n ps l).isEmpty) G := q
        cases e : suddenM n ps l with
        | nil => rw [e] at q; exact q
        | cons x r => rw [e] at q; exact q
end
end TP
end
section
set_option maxRecDepth 100000
set_option maxHeartbeats 1000000
/-! desks.py: desks, as far as k64 goes. -/
namespace TP
open PySem PySem.Spec PyProof.Rows DL
open L2 hiding Room FnOk takes0
structure Held where
  ps : List Pass
  ws : List Wish
abbrev heldD (a : Ad) (n : Int) (h : Held) : D := .tup [trackD a n h.ps, .tup (h.ws.map Wish.d)]
abbrev deskO (a : Ad) (n : Int) (h : Held) (past : List Held) : HOD := .ins a.Desk [("held", heldD a n h), ("past", .tup (past.map (heldD a n)))]
/-- a promise that holds for each track -/
def easy (n : Int) : Wish → Prop
  | .flat x y => y = x + 1 ∧ 0 ≤ x ∧ x < n
  | .calm l => l = one
  | _ => False
theorem easy.can {n : Int} {v : Wish} (h : easy n v) (ps : List Pass) : can64 n ps v := by
  cases v with
  | heard => exact h.elim
  | kept => exact h.elim
  | flat x y => obtain ⟨h1, h2, h3⟩ := h; exact ⟨h2, by omega, by omega⟩
  | calm l =>
    have h : l = one := h
    subst h
    exact (wOk_one (B := 101 ^ 9) (by decide)).frac
theorem easy.holds {n : Int} {v : Wish} (h : easy n v) {ps : List Pass} (ht : RightT n ps) : holds64 n ps v = true := by
  cases v with
  | heard => exact h.elim
  | kept => exact h.elim
  | flat x y =>
    obtain ⟨h1, h2, h3⟩ := h
    subst h1
    show (otherM n ps x (x + 1)).isNone = true
    rw [flat_one ht h2 h3]
    rfl
  | calm l =>
    have h : l = one := h
    subst h
    show (suddenM n ps one).isEmpty = true
    rw [calm_one ht]
    rfl
theorem easy.wish {n : Int} {v : Wish} (h : easy n v) : isWishS n v = true := by
  cases v with
  | heard => exact h.elim
  | kept => exact h.elim
  | flat x y => obtain ⟨h1, h2, h3⟩ := h; exact stretch_iff.mpr ⟨h2, by omega, by omega⟩
  | calm l =>
    have h : l = one := h
    subst h
    show isLimitD (pr one) = true
    decide
structure DeskOk (n : Int) (h : Held) : Prop where
  track : TrackOk n h.ps
  easy : ∀ v ∈ h.ws, easy n v
section
variable {P : Program} {w : World} {K : PySem.W.Frag} {mg : Str → Option Value} {base : Heap} {a : Ad} {f pt : Addr} {fd : FuncData}
def sp_Desk_init : SpD := fun ds G Q _ => ∃ t n ps, ds = [.ref t, trackD a n ps] ∧ G t = some (.ins a.Desk []) ∧ Q .non (put G t (deskO a n ⟨ps, []⟩ []))
theorem ok_Desk_init (T : Txt K w mg a) (k_check_track : Knows P w K mg base "check_track" 3 [] (sp_check_track (a := a))) (Fu : FunD K "__init__" "Desk.__init__" (defArgs s_Desk___init__) (defBody s_Desk___init__) (defScope s_Desk___init__) [] [] f fd) : FnD P w K mg base 5 f fd ["self", "track"] (sp_Desk_init (a := a)) := by
  refine fun_ok Fu sc_Desk___init__ ?_ (fun cdv A outer s H E hr => (dss_cons (ds_expr (de_call k_check_track (hr.mono (by decide)) tk0 (da_cons (dv 1) da_nil)))
      (dss_cons (ds_fld T.clDesk T.nDesk_held (dv 0) (de_tup (da_cons (dv 1) (da_cons (de_tup da_nil) da_nil))))
      (dss_one (ds_fld T.clDesk T.nDesk_past (dv 0) (de_tup da_nil)))))) ?_
  · rintro ds G Q E ⟨t, n, ps, rfl, _⟩; rfl
  · rintro ds G Q E ⟨t, n, ps, rfl, ht, q⟩
    refine ⟨_, rfl, .inl ⟨⟨n, ps, rfl⟩, by show 0 ≤ sizeLine; decide, by show 2 ≤ sizeLine; decide, t, [], rfl, ht, by decide, by show 0 ≤ sizeLine; decide, t, _, rfl, put_same, by show 1 < 1000; decide, ret ?_⟩⟩
    rw [put_put]
    exact q
theorem desk_ins {G : GD} {d : Addr} {C : Addr} {fs : List (Str × D)} (hd : G d = some (.ins C fs)) : insOf (.ref d) G = some (C, fs) := by
  show (match G d with
    | some (.ins C fs) => some (C, fs)
    | _ => none) = _
  rw [hd]
def sp_Desk_track : SpD := fun ds G Q _ => ∃ d n h past, ds = [.ref d] ∧ G d = some (deskO a n h past) ∧ Q (trackD a n h.ps) G
theorem ok_Desk_track (T : Txt K w mg a) (Fu : FunD K "track" "Desk.track" (defArgs s_Desk_track) (defBody s_Desk_track) (defScope s_Desk_track) [] [] f fd) : FnD P w K mg base 1 f fd ["self"] (sp_Desk_track (a := a)) := by
  refine fun_ok Fu sc_Desk_track ?_ (fun cdv A outer s H E hr => (dss_one (ds_ret (de_ix (de_fld T.clDesk T.nDesk_held (dv 0)) de_int)))) ?_
  · rintro ds G Q E ⟨d, n, h, past, rfl, _⟩; rfl
  · rintro ds G Q E ⟨d, n, h, past, rfl, hd, q⟩
    exact ⟨_, heldD a n h, desk_ins hd, rfl, _, trackD a n h.ps, rfl, rfl, ret q⟩
def sp_Desk_promises : SpD := fun ds G Q _ => ∃ d n h past, ds = [.ref d] ∧ G d = some (deskO a n h past) ∧ Q (.tup (h.ws.map Wish.d)) G
theorem ok_Desk_promises (T : Txt K w mg a) (Fu : FunD K "promises" "Desk.promises" (defArgs s_Desk_promises) (defBody s_Desk_promises) (defScope s_Desk_promises) [] [] f fd) : FnD P w K mg base 1 f fd ["self"] (sp_Desk_promises (a := a)) := by
  refine fun_ok Fu sc_Desk_promises ?_ (fun cdv A outer s H E hr => (dss_one (ds_ret (de_ix (de_fld T.clDesk T.nDesk_held (dv 0)) de_int)))) ?_
  · rintro ds G Q E ⟨d, n, h, past, rfl, _⟩; rfl
  · rintro ds G Q E ⟨d, n, h, past, rfl, hd, q⟩
    exact ⟨_, heldD a n h, desk_ins hd, rfl, _, .tup (h.ws.map Wish.d), rfl, rfl, ret q⟩
def sp_Desk_changes : SpD := fun ds G Q _ => ∃ d n h past, ds = [.ref d] ∧ G d = some (deskO a n h past) ∧ Q (.int past.length) G
theorem ok_Desk_changes (T : Txt K w mg a) (Fu : FunD K "changes" "Desk.changes" (defArgs s_Desk_changes) (defBody s_Desk_changes) (defScope s_Desk_changes) [] [] f fd) : FnD P w K mg base 1 f fd ["self"] (sp_Desk_changes (a := a)) := by
  refine fun_ok Fu sc_Desk_changes ?_ (fun cdv A outer s H E hr => (dss_one (ds_ret (de_callB len_okD T.len (by decide +kernel) (da_cons (de_fld T.clDesk T.nDesk_past (dv 0)) da_nil))))) ?_
  · rintro ds G Q E ⟨d, n, h, past, rfl, _⟩; rfl
  · rintro ds G Q E ⟨d, n, h, past, rfl, hd, q⟩
    refine ⟨_, .tup (past.map (heldD a n)), desk_ins hd, rfl, _, rfl, ret ?_⟩
    rw [List.length_map]
    exact q
def sp_Desk_len : SpD := fun ds G Q _ => ∃ d n h past, ds = [.ref d] ∧ G d = some (deskO a n h past) ∧ Q (.int h.ps.length) G
theorem ok_Desk_len (T : Txt K w mg a) (k_Track_passes : KnowsP P w K mg base a.Track "passes" 1 (sp_Track_passes (a := a))) (Fu : FunD K "__len__" "Desk.__len__" (defArgs s_Desk___len__) (defBody s_Desk___len__) (defScope s_Desk___len__) [] [] f fd) : FnD P w K mg base 3 f fd ["self"] (sp_Desk_len (a := a)) := by
  refine fun_ok Fu sc_Desk___len__ ?_ (fun cdv A outer s H E hr => (dss_one (ds_ret (de_callB len_okD T.len (by decide +kernel) (da_cons (de_prop T.clTrack k_Track_passes (hr.mono (by decide)) (de_ix (de_fld T.clDesk T.nDesk_held (dv 0)) de_int)) da_nil))))) ?_
  · rintro ds G Q E ⟨d, n, h, past, rfl, _⟩; rfl
  · rintro ds G Q E ⟨d, n, h, past, rfl, hd, q⟩
    refine ⟨_, heldD a n h, desk_ins hd, rfl, _, trackD a n h.ps, rfl, rfl, _, rfl, n, h.ps, rfl, _, rfl, ret ?_⟩
    rw [List.length_map]
    exact q
def sp_Desk_bool : SpD := fun ds G Q _ => ∃ d, ds = [d] ∧ Q (.bl true) G
theorem ok_Desk_bool (Fu : FunD K "__bool__" "Desk.__bool__" (defArgs s_Desk___bool__) (defBody s_Desk___bool__) (defScope s_Desk___bool__) [] [] f fd) : FnD P w K mg base 1 f fd ["self"] sp_Desk_bool := by
  refine fun_ok Fu sc_Desk___bool__ ?_ (fun cdv A outer s H E hr => (dss_one (ds_ret de_bl))) ?_
  · rintro ds G Q E ⟨d, rfl, _⟩; rfl
  · rintro ds G Q E ⟨d, rfl, q⟩
    exact ret q
def sp_Desk_become (pt : Addr) : SpD := fun ds G Q E => ∃ d n h past ps ws, ds = [.ref d, trackD a n ps, .tup (ws.map Wish.d)] ∧ G d = some (deskO a n h past) ∧ RightT n ps ∧ (∀ v ∈ ws, can64 n ps v) ∧ G pt = some (.tab qTold) ∧ past.length < 10000 ∧
  (∀ (k : Nat) v, ws[k]? = some v → holds64 n ps v = false → (∀ u ∈ ws.take k, holds64 n ps u = true) → E (.ref a.Broken) [("index", .int k)] G) ∧
  ((∀ u ∈ ws, holds64 n ps u = true) → Q .non (put G d (deskO a n ⟨ps, ws⟩ (past ++ [h]))))
theorem ok_Desk_become (T : Txt K w mg a) (k_does_hold : Knows P w K mg base "does_hold" 17 [] (sp_does_hold (a := a) pt)) (k_Broken : KnowsX1 P w K mg base "Broken" a.Broken "index")
    (Fu : FunD K "become" "Desk.become" (defArgs s_Desk_become) (defBody s_Desk_become) (defScope s_Desk_become) [] [] f fd) : FnD P w K mg base 19 f fd ["self", "track", "promises"] (sp_Desk_become (a := a) pt) := by
  refine fun_ok Fu sc_Desk_become ?_ (fun cdv A outer s H E hr => (dss_cons (ds_for po0 rfl (di_enum T.enumerate (da_cons (dv 2) da_nil)) (dg_tup (n := 2) rfl (dgs_cons (dg_name (i := 3) sc_Desk_become.nd rfl (Or.inl rfl)) (dgs_cons (dg_name (i := 4) sc_Desk_become.nd rfl (Or.inl rfl)) dgs_nil))) (dss_one (ds_if (dt_not (dt_val (de_call k_does_hold (hr.mono (by decide)) tk0 (da_cons (dv 1) (da_cons (dv 4) da_nil))))) (dss_one (ds_raise1 k_Broken (hr.mono (by decide)) tk0 (da_cons (dv 3) da_nil))) dss_nil)))
      (dss_cons (ds_fld T.clDesk T.nDesk_past (dv 0) (de_tup (da_star (de_fld T.clDesk T.nDesk_past (dv 0)) (da_cons (de_fld T.clDesk T.nDesk_held (dv 0)) da_nil))))
      (dss_one (ds_fld T.clDesk T.nDesk_held (dv 0) (de_tup (da_cons (dv 1) (da_cons (dv 2) da_nil)))))))) ?_
  · rintro ds G Q E ⟨d, n, h, past, ps, ws, rfl, _⟩; rfl
  · rintro ds G Q E ⟨d, n, h, past, ps, ws, rfl, hd, ht, hc, hp, hl, q1, q2⟩
    refine loop_inv (fun rest s G' => ∃ (done left : List Wish) (o3 o4 : Option D), ws = done ++ left ∧ rest = enumD done.length (left.map Wish.d) ∧ (∀ u ∈ done, holds64 n ps u = true) ∧ s = [some (.ref d), some (trackD a n ps), some (.tup (ws.map Wish.d)), o3, o4] ∧ G' = G) ?_ ?_ ⟨[], ws, none, none, rfl, rfl, fun _ h => (List.not_mem_nil h).elim, rfl, rfl⟩
    · rintro x ds s G' ⟨done, left, o3, o4, hw, hr, hh, rfl, rfl⟩ R hR
      cases left with
      | nil => cases hr
      | cons v left =>
        cases hr
        refine ⟨rfl, n, ps, v, rfl, ht, hc v (by rw [hw]; simp), hp, ?_⟩
        cases hv : holds64 n ps v with
        | true => exact ite_ff (hR _ _ ⟨done ++ [v], left, _, _, by rw [hw]; simp, by simp, fun u hu => by
            rcases List.mem_append.mp hu with hu | hu
            · exact hh u hu
            · obtain rfl := List.mem_singleton.mp hu
              exact hv, rfl, rfl⟩)
        | false =>
          exact ite_tt ⟨_, .refl _, q1 done.length v (by rw [hw]; simp) hv (fun u hu => hh u (by rw [hw] at hu; simpa using hu))⟩
    · rintro s G' ⟨done, left, o3, o4, hw, hr, hh, rfl, rfl⟩
      cases left with
      | cons u left => cases hr
      | nil =>
        have e : ws = done := by rw [hw]; simp
        have q := q2 (by rw [e]; exact hh)
        refine ⟨_, .tup (past.map (heldD a n)), desk_ins hd, rfl, _, heldD a n h, desk_ins hd, rfl, ?_, d, _, rfl, hd, by show 2 < 1000; decide, by show 2 ≤ sizeLine; decide, d, _, rfl, put_same, by show 2 < 1000; decide, ret ?_⟩
        · show (past.map (heldD a n) ++ [heldD a n h]).length ≤ _
          simp only [List.length_append, List.length_map, List.length_cons, List.length_nil]
          exact Nat.le_trans (by omega : _ ≤ 20000) (by decide)
        · rw [put_put]
          have e2 : past.map (heldD a n) ++ [heldD a n h] = (past ++ [h]).map (heldD a n) := by simp
          show Q .non (put G' d (.ins a.Desk [("held", .tup [trackD a n ps, .tup (ws.map Wish.d)]), ("past", .tup (past.map (heldD a n) ++ [heldD a n h]))]))
          rw [e2]
          exact q
/-- what stands around a desk -/
structure AtDesk (a : Ad) (pt d : Addr) (n : Int) (h : Held) (past : List Held) (G : GD) : Prop where
  at_ : G d = some (deskO a n h past)
  ok : DeskOk n h
  tab : G pt = some (.tab qTold)
  few : past.length < 10000
theorem easy_never {n : Int} {ps : List Pass} {ws : List Wish} {k : Nat} {v : Wish} {X : Prop} (he : ∀ v ∈ ws, easy n v) (ht : TrackOk n ps) (hk : ws[k]? = some v) (hv : holds64 n ps v = false) : X := by
  rw [(he v (List.mem_of_getElem? hk)).holds ht.rt] at hv
  cases hv
def sp_Desk_put (pt : Addr) : SpD := fun ds G Q E => ∃ d n h past x pl, ds = [.ref d, x, pl] ∧ AtDesk a pt d n h past G ∧ askable x ∧ (isPassD x n (h.ps.map (·.name)) = false → E (.ref a.InvalidPass) [("given", x)] G) ∧
  (isPassD x n (h.ps.map (·.name)) = true → h.ps.length < 8 ∧ (pl = .non ∨ ∃ i, pl = .int i ∧ 0 ≤ i ∧ i ≤ h.ps.length) ∧ ∀ p : Pass, x = p.d → Q .non (put G d (deskO a n ⟨putAt h.ps (spotOf h.ps pl) p, h.ws⟩ (past ++ [h]))))
theorem ok_Desk_put {dvs : List V} (T : Txt K w mg a) (k_Desk_become : KnowsM P w K mg base a.Desk "become" 19 [] (sp_Desk_become (a := a) pt)) (k_Track_put2 : KnowsM P w K mg base a.Track "put" 7 [] (sp_Track_put (a := a)))
    (Fu : FunD K "put" "Desk.put" (defArgs s_Desk_put) (defBody s_Desk_put) (defScope s_Desk_put) dvs [] f fd) : FnD P w K mg base 21 f fd ["self", "one_pass", "place"] (sp_Desk_put (a := a) pt) := by
  refine fun_ok Fu sc_Desk_put ?_ (fun cdv A outer s H E hr => (dss_cons (ds_asg (de_fld T.clDesk T.nDesk_held (dv 0)) (dg_tup (n := 2) rfl (dgs_cons (dg_name (i := 3) sc_Desk_put.nd rfl (Or.inl rfl)) (dgs_cons (dg_name (i := 4) sc_Desk_put.nd rfl (Or.inl rfl)) dgs_nil))))
      (dss_one (ds_expr (de_meth T.clDesk k_Desk_become (hr.mono (by decide)) tk0 (dv 0) (da_cons (de_meth T.clTrack k_Track_put2 (hr.mono (by decide)) tk0 (dv 3) (da_cons (dv 1) (da_cons (dv 2) da_nil))) (da_cons (dv 4) da_nil))))))) ?_
  · rintro ds G Q E ⟨d, n, h, past, x, pl, rfl, _⟩; rfl
  · rintro ds G Q E ⟨d, n, h, past, x, pl, rfl, A, hx, q1, q2⟩
    refine ⟨_, heldD a n h, desk_ins A.at_, rfl, rfl, _, desk_ins A.at_, rfl, _, rfl, rfl, n, h.ps, x, pl, rfl, A.ok.track, hx, fun e => ⟨G, .refl G, q1 e⟩, fun e => ?_⟩
    obtain ⟨h8, hpl, q⟩ := q2 e
    obtain ⟨p, rfl⟩ := pass_of e
    refine ⟨h8, hpl, fun p2 hp2 => ?_⟩
    have q := q p2 hp2
    rw [hp2] at e hx
    exact ⟨d, n, h, past, _, h.ws, rfl, A.at_, TrackOk.rt (A.ok.track.putAt h8 hx e), fun v hv => (A.ok.easy v hv).can _, A.tab, A.few, fun k v hk hv _ => easy_never A.ok.easy (A.ok.track.putAt h8 hx e) hk hv, fun _ => (ret q)⟩
def sp_Desk_take (pt : Addr) : SpD := fun ds G Q E => ∃ d n h past x, ds = [.ref d, x] ∧ AtDesk a pt d n h past G ∧ typed x = true ∧ (hasName x h.ps = false → E (.ref a.UnknownName) [("given", x)] G) ∧
  ∀ z, x = .str z → z ∈ h.ps.map (·.name) → Q .non (put G d (deskO a n ⟨without h.ps ((h.ps.map (·.name)).idxOf z), h.ws⟩ (past ++ [h])))
theorem ok_Desk_take (T : Txt K w mg a) (k_Desk_become : KnowsM P w K mg base a.Desk "become" 19 [] (sp_Desk_become (a := a) pt)) (k_Track_without : KnowsM P w K mg base a.Track "without" 7 [] (sp_Track_without (a := a)))
    (Fu : FunD K "take" "Desk.take" (defArgs s_Desk_take) (defBody s_Desk_take) (defScope s_Desk_take) [] [] f fd) : FnD P w K mg base 21 f fd ["self", "name"] (sp_Desk_take (a := a) pt) := by
  refine fun_ok Fu sc_Desk_take ?_ (fun cdv A outer s H E hr => (dss_cons (ds_asg (de_fld T.clDesk T.nDesk_held (dv 0)) (dg_tup (n := 2) rfl (dgs_cons (dg_name (i := 2) sc_Desk_take.nd rfl (Or.inl rfl)) (dgs_cons (dg_name (i := 3) sc_Desk_take.nd rfl (Or.inl rfl)) dgs_nil))))
      (dss_one (ds_expr (de_meth T.clDesk k_Desk_become (hr.mono (by decide)) tk0 (dv 0) (da_cons (de_meth T.clTrack k_Track_without (hr.mono (by decide)) tk0 (dv 2) (da_cons (dv 1) da_nil)) (da_cons (dv 3) da_nil))))))) ?_
  · rintro ds G Q E ⟨d, n, h, past, x, rfl, _⟩; rfl
  · rintro ds G Q E ⟨d, n, h, past, x, rfl, A, hx, q1, q2⟩
    refine ⟨_, heldD a n h, desk_ins A.at_, rfl, rfl, _, desk_ins A.at_, rfl, _, rfl, rfl, n, h.ps, x, rfl, A.ok.track, hx, fun e => ⟨G, .refl G, q1 e⟩, fun z hz hm => ?_⟩
    exact ⟨d, n, h, past, _, h.ws, rfl, A.at_, TrackOk.rt (A.ok.track.sub (without_sub _ _)), fun v hv => (A.ok.easy v hv).can _, A.tab, A.few, fun k v hk hv _ => easy_never A.ok.easy (A.ok.track.sub (without_sub _ _)) hk hv, fun _ => (ret (q2 z hz hm))⟩
theorem TrackOk.perm {n : Int} {ps qs : List Pass} (h : TrackOk n ps) (p : qs.Perm ps) : TrackOk n qs :=
  ⟨h.lo, h.hi, by rw [p.length_eq]; exact h.few, fun x hx => h.ask x (p.subset hx), fun x hx => h.right x (p.subset hx), (p.map _).nodup_iff.mpr h.nd⟩
theorem move_perm (ps : List Pass) (j k : Nat) : (moveTo ps j k).Perm ps := by
  unfold moveTo
  split
  · rename_i p hp
    exact (perm_putAt _ _ _).trans (without_perm hp)
  · exact .refl _
def sp_Desk_move (pt : Addr) : SpD := fun ds G Q E => ∃ d n h past x pl, ds = [.ref d, x, pl] ∧ AtDesk a pt d n h past G ∧ typed x = true ∧ typed pl = true ∧ (hasName x h.ps = false → E (.ref a.UnknownName) [("given", x)] G) ∧
  ∀ z, x = .str z → z ∈ h.ps.map (·.name) → ∃ i : Nat, pl = .int i ∧ i < h.ps.length ∧ Q .non (put G d (deskO a n ⟨moveTo h.ps ((h.ps.map (·.name)).idxOf z) i, h.ws⟩ (past ++ [h])))
theorem ok_Desk_move (T : Txt K w mg a) (k_Desk_become : KnowsM P w K mg base a.Desk "become" 19 [] (sp_Desk_become (a := a) pt)) (k_Track_moved : KnowsM P w K mg base a.Track "moved" 9 [] (sp_Track_moved (a := a)))
    (Fu : FunD K "move" "Desk.move" (defArgs s_Desk_move) (defBody s_Desk_move) (defScope s_Desk_move) [] [] f fd) : FnD P w K mg base 21 f fd ["self", "name", "place"] (sp_Desk_move (a := a) pt) := by
  refine fun_ok Fu sc_Desk_move ?_ (fun cdv A outer s H E hr => (dss_cons (ds_asg (de_fld T.clDesk T.nDesk_held (dv 0)) (dg_tup (n := 2) rfl (dgs_cons (dg_name (i := 3) sc_Desk_move.nd rfl (Or.inl rfl)) (dgs_cons (dg_name (i := 4) sc_Desk_move.nd rfl (Or.inl rfl)) dgs_nil))))
      (dss_one (ds_expr (de_meth T.clDesk k_Desk_become (hr.mono (by decide)) tk0 (dv 0) (da_cons (de_meth T.clTrack k_Track_moved (hr.mono (by decide)) tk0 (dv 3) (da_cons (dv 1) (da_cons (dv 2) da_nil))) (da_cons (dv 4) da_nil))))))) ?_
  · rintro ds G Q E ⟨d, n, h, past, x, pl, rfl, _⟩; rfl
  · rintro ds G Q E ⟨d, n, h, past, x, pl, rfl, A, hx, hpl, q1, q2⟩
    refine ⟨_, heldD a n h, desk_ins A.at_, rfl, rfl, _, desk_ins A.at_, rfl, _, rfl, rfl, n, h.ps, x, pl, rfl, A.ok.track, hx, hpl, fun e => ⟨G, .refl G, q1 e⟩, fun z hz hm => ?_⟩
    obtain ⟨i, rfl, hi, q⟩ := q2 z hz hm
    refine ⟨fun e => ?_, fun k hk hk2 => ?_⟩
    · have e : decide ((0 : Int) ≤ i ∧ (i : Int) ≤ (h.ps.length : Int) - 1) = false := e
      simp at e
      omega
    · have ek : k = i := by injection hk with hk; omega
      subst ek
      exact ⟨d, n, h, past, _, h.ws, rfl, A.at_, TrackOk.rt (A.ok.track.perm (move_perm _ _ _)), fun v hv => (A.ok.easy v hv).can _, A.tab, A.few, fun k v hk hv _ => easy_never A.ok.easy (A.ok.track.perm (move_perm _ _ _)) hk hv, fun _ => (ret q)⟩
def sp_Desk_change (pt : Addr) : SpD := fun ds G Q E => ∃ d n h past x, ds = [.ref d, x] ∧ AtDesk a pt d n h past G ∧ chgAsk x ∧ (isChangeD x h.ps = false → E (.ref a.InvalidChange) [("given", x)] G) ∧
  (isChangeD x h.ps = true → ∃ c qs, x = Chg.d c ∧ chgRow (h.ps.map (·.name)) (h.ps.map rowD) c = qs.map rowD ∧ TrackOk n qs ∧ Q .non (put G d (deskO a n ⟨qs, h.ws⟩ (past ++ [h]))))
theorem ok_Desk_change (T : Txt K w mg a) (k_Desk_become : KnowsM P w K mg base a.Desk "become" 19 [] (sp_Desk_become (a := a) pt)) (k_Track_changed : KnowsM P w K mg base a.Track "changed" 9 [] (sp_Track_changed (a := a)))
    (Fu : FunD K "change" "Desk.change" (defArgs s_Desk_change) (defBody s_Desk_change) (defScope s_Desk_change) [] [] f fd) : FnD P w K mg base 21 f fd ["self", "change"] (sp_Desk_change (a := a) pt) := by
  refine fun_ok Fu sc_Desk_change ?_ (fun cdv A outer s H E hr => (dss_cons (ds_asg (de_fld T.clDesk T.nDesk_held (dv 0)) (dg_tup (n := 2) rfl (dgs_cons (dg_name (i := 2) sc_Desk_change.nd rfl (Or.inl rfl)) (dgs_cons (dg_name (i := 3) sc_Desk_change.nd rfl (Or.inl rfl)) dgs_nil))))
      (dss_one (ds_expr (de_meth T.clDesk k_Desk_become (hr.mono (by decide)) tk0 (dv 0) (da_cons (de_meth T.clTrack k_Track_changed (hr.mono (by decide)) tk0 (dv 2) (da_cons (dv 1) da_nil)) (da_cons (dv 3) da_nil))))))) ?_
  · rintro ds G Q E ⟨d, n, h, past, x, rfl, _⟩; rfl
  · rintro ds G Q E ⟨d, n, h, past, x, rfl, A, hx, q1, q2⟩
    refine ⟨_, heldD a n h, desk_ins A.at_, rfl, rfl, _, desk_ins A.at_, rfl, _, rfl, rfl, n, h.ps, x, rfl, A.ok.track, hx, fun e => ⟨G, .refl G, q1 e⟩, fun e => ?_⟩
    obtain ⟨c, qs, e1, e2, hq, q⟩ := q2 e
    refine ⟨c, qs, e1, e2, hq, ?_⟩
    exact ⟨d, n, h, past, _, h.ws, rfl, A.at_, TrackOk.rt hq, fun v hv => (A.ok.easy v hv).can _, A.tab, A.few, fun k v hk hv _ => easy_never A.ok.easy hq hk hv, fun _ => (ret q)⟩
def sp_Desk_promise (pt : Addr) : SpD := fun ds G Q E => ∃ d n h past v, ds = [.ref d, Wish.d v] ∧ AtDesk a pt d n h past G ∧ (∀ z x y, v = .heard z x y → z.length ≤ sizeLine ∧ hasName (.str z) h.ps = false) ∧ h.ws.length < 10000 ∧ (isWishS n v = false → E (.ref a.InvalidWish) [("given", v.d)] G) ∧
  (isWishS n v = true → (easy n v ∧ Q .non (put G d (deskO a n ⟨h.ps, h.ws ++ [v]⟩ (past ++ [h])))) ∨ ((∃ z x y, v = .heard z x y) ∧ E (.ref a.Broken) [("index", .int h.ws.length)] G))
theorem ok_Desk_promise (T : Txt K w mg a) (k_Desk_become : KnowsM P w K mg base a.Desk "become" 19 [] (sp_Desk_become (a := a) pt)) (k_check_wish : Knows P w K mg base "check_wish" 6 [] (sp_check_wish (a := a)))
    (Fu : FunD K "promise" "Desk.promise" (defArgs s_Desk_promise) (defBody s_Desk_promise) (defScope s_Desk_promise) [] [] f fd) : FnD P w K mg base 21 f fd ["self", "wish"] (sp_Desk_promise (a := a) pt) := by
  refine fun_ok Fu sc_Desk_promise ?_ (fun cdv A outer s H E hr => (dss_cons (ds_asg (de_fld T.clDesk T.nDesk_held (dv 0)) (dg_tup (n := 2) rfl (dgs_cons (dg_name (i := 2) sc_Desk_promise.nd rfl (Or.inl rfl)) (dgs_cons (dg_name (i := 3) sc_Desk_promise.nd rfl (Or.inl rfl)) dgs_nil))))
      (dss_cons (ds_expr (de_call k_check_wish (hr.mono (by decide)) tk0 (da_cons (dv 2) (da_cons (dv 1) da_nil))))
      (dss_one (ds_expr (de_meth T.clDesk k_Desk_become (hr.mono (by decide)) tk0 (dv 0) (da_cons (dv 2) (da_cons (de_tup (da_star (dv 3) (da_cons (dv 1) da_nil))) da_nil)))))))) ?_
  · rintro ds G Q E ⟨d, n, h, past, v, rfl, _⟩; rfl
  · rintro ds G Q E ⟨d, n, h, past, v, rfl, A, hv, hl, q1, q2⟩
    refine ⟨_, heldD a n h, desk_ins A.at_, rfl, rfl, n, h.ps, v, rfl, fun z x y e => (hv z x y e).1, fun e => ⟨G, .refl G, q1 e⟩, fun e => ⟨_, desk_ins A.at_, rfl, ?_, ?_⟩⟩
    · show (h.ws.map Wish.d ++ [v.d]).length ≤ _
      simp only [List.length_append, List.length_map, List.length_cons, List.length_nil]
      exact Nat.le_trans (by omega : _ ≤ 20000) (by decide)
    · have ew : h.ws.map Wish.d ++ [v.d] = (h.ws ++ [v]).map Wish.d := by simp
      rcases q2 e with ⟨he, q⟩ | ⟨⟨z, x, y, rfl⟩, q⟩
      · have hall : ∀ u ∈ h.ws ++ [v], easy n u := fun u hu => by
          rcases List.mem_append.mp hu with hu | hu
          · exact A.ok.easy u hu
          · obtain rfl := List.mem_singleton.mp hu
            exact he
        exact ⟨d, n, h, past, h.ps, h.ws ++ [v], by rw [← ew]; rfl, A.at_, TrackOk.rt A.ok.track, fun v hv => (hall v hv).can _, A.tab, A.few, fun k v hk hv _ => easy_never hall A.ok.track hk hv, fun _ => (ret q)⟩
      · have hn := (hv z x y rfl).2
        refine ⟨d, n, h, past, h.ps, h.ws ++ [.heard z x y], by rw [← ew]; rfl, A.at_, A.ok.track.rt, fun u hu => ?_, A.tab, A.few, fun k u hk hu ha => ?_, fun ha => ?_⟩
        · rcases List.mem_append.mp hu with hu | hu
          · exact (A.ok.easy u hu).can _
          · obtain rfl := List.mem_singleton.mp hu
            exact hn
        · have ek : k = h.ws.length := by
            by_cases lt : k < h.ws.length
            · rw [List.getElem?_append_left lt] at hk
              rw [(A.ok.easy u (List.mem_of_getElem? hk)).holds A.ok.track.rt] at hu
              cases hu
            · have := (List.getElem?_eq_some_iff.mp hk).1
              simp only [List.length_append, List.length_cons, List.length_nil] at this
              omega
          subst ek
          exact ⟨G, .refl G, q⟩
        · have := ha (.heard z x y) (by simp)
          exact absurd this Bool.false_ne_true
def sp_Desk_lift (pt : Addr) : SpD := fun ds G Q E => ∃ d n h past x, ds = [.ref d, x] ∧ AtDesk a pt d n h past G ∧ typed x = true ∧ h.ws.length < 10000 ∧ (isIntegerD x 0 ((h.ws.length : Int) - 1) = false → E (.ref a.InvalidIndex) [("given", x)] G) ∧
  ∀ i : Nat, x = .int i → i < h.ws.length → Q .non (put G d (deskO a n ⟨h.ps, h.ws.eraseIdx i⟩ (past ++ [h])))
theorem ok_Desk_lift (T : Txt K w mg a) (k_Desk_become : KnowsM P w K mg base a.Desk "become" 19 [] (sp_Desk_become (a := a) pt)) (k_is_integer : Knows P w K mg base "is_integer" 2 [] sp_is_integer) (k_InvalidIndex : KnowsX1 P w K mg base "InvalidIndex" a.InvalidIndex "given")
    (Fu : FunD K "lift" "Desk.lift" (defArgs s_Desk_lift) (defBody s_Desk_lift) (defScope s_Desk_lift) [] [] f fd) : FnD P w K mg base 21 f fd ["self", "index"] (sp_Desk_lift (a := a) pt) := by
  refine fun_ok Fu sc_Desk_lift ?_ (fun cdv A outer s H E hr => (dss_cons (ds_asg (de_fld T.clDesk T.nDesk_held (dv 0)) (dg_tup (n := 2) rfl (dgs_cons (dg_name (i := 2) sc_Desk_lift.nd rfl (Or.inl rfl)) (dgs_cons (dg_name (i := 3) sc_Desk_lift.nd rfl (Or.inl rfl)) dgs_nil))))
      (dss_cons (ds_if (dt_not (dt_val (de_call k_is_integer (hr.mono (by decide)) tk0 (da_cons (dv 1) (da_cons de_int (da_cons (de_sub (de_callB len_okD T.len (by decide +kernel) (da_cons (dv 3) da_nil)) de_int) da_nil)))))) (dss_one (ds_raise1 k_InvalidIndex (hr.mono (by decide)) tk0 (da_cons (dv 1) da_nil))) dss_nil)
      (dss_one (ds_expr (de_meth T.clDesk k_Desk_become (hr.mono (by decide)) tk0 (dv 0) (da_cons (dv 2) (da_cons (de_add (de_slice (dv 3) do_none (do_some (dv 1))) (de_slice (dv 3) (do_some (de_add (dv 1) de_int)) do_none)) da_nil)))))))) ?_
  · rintro ds G Q E ⟨d, n, h, past, x, rfl, _⟩; rfl
  · rintro ds G Q E ⟨d, n, h, past, x, rfl, A, hx, hl, q1, q2⟩
    refine ⟨_, heldD a n h, desk_ins A.at_, rfl, rfl, _, rfl, x, 0, _, rfl, hx, ?_⟩
    rw [List.length_map]
    cases hi : isIntegerD x 0 ((h.ws.length : Int) - 1) with
    | false => exact ite_tt ⟨G, .refl G, q1 hi⟩
    | true =>
      obtain ⟨i, rfl⟩ := integer_of hi
      have hi : 0 ≤ i ∧ i ≤ (h.ws.length : Int) - 1 := of_decide_eq_true hi
      obtain ⟨k, rfl⟩ := Int.eq_ofNat_of_zero_le hi.1
      have q := q2 k rfl (by omega)
      have ec : DL.cutD (h.ws.map Wish.d) none (some (k : Int)) ++ DL.cutD (h.ws.map Wish.d) (some ((k : Int) + 1)) none = (h.ws.eraseIdx k).map Wish.d := by
        rw [cut_to, show ((k : Int) + 1) = ((k + 1 : Nat) : Int) from rfl, cut_from, List.eraseIdx_eq_take_drop_succ, List.map_append, List.map_take, List.map_drop]
      refine ite_ff ⟨_, desk_ins A.at_, rfl, ?_, ?_⟩
      · rw [← List.length_append, ec, List.length_map]
        have := (List.eraseIdx_sublist h.ws k).length_le
        exact Nat.le_trans (by omega : _ ≤ 10000) (by decide)
      · have hall : ∀ u ∈ h.ws.eraseIdx k, easy n u := fun u hu => A.ok.easy u ((List.eraseIdx_sublist h.ws k).subset hu)
        exact ⟨d, n, h, past, h.ps, h.ws.eraseIdx k, by rw [← ec]; rfl, A.at_, TrackOk.rt A.ok.track, fun v hv => (hall v hv).can _, A.tab, A.few, fun k2 v hk hv _ => easy_never hall A.ok.track hk hv, fun _ => ret q⟩
def sp_Desk_undo : SpD := fun ds G Q E => ∃ d n h past, ds = [.ref d] ∧ G d = some (deskO a n h past) ∧ (past = [] → E (.ref a.NothingToUndo) [] G) ∧ ∀ p g, past = p ++ [g] → Q .non (put G d (deskO a n g p))
theorem cut_last (xs : List D) (x : D) : DL.cutD (xs ++ [x]) none (some (-1)) = xs := by
  unfold DL.cutD
  rw [HT.sIx_none]
  have e : HT.sIx (xs ++ [x]).length (xs ++ [x]).length (some (-1)) = xs.length := by
    show (if (-1 : Int) < 0 then ((-1 : Int) + ((xs ++ [x]).length : Int)).toNat else min (-1 : Int).toNat (xs ++ [x]).length) = _
    rw [if_pos (by decide)]
    simp only [List.length_append, List.length_cons, List.length_nil]
    omega
  rw [e]
  simp
theorem atI_last {α : Type} (xs : List α) (x : α) : atI (xs ++ [x]) (-1) = some x := by
  unfold atI ixN
  have e : (-1 + ((xs ++ [x]).length : Int)).toNat = xs.length := by
    simp only [List.length_append, List.length_cons, List.length_nil]
    omega
  rw [if_neg (by omega), if_pos (by simp only [List.length_append, List.length_cons, List.length_nil]; omega), e]
  simp
theorem ok_Desk_undo (T : Txt K w mg a) (k_NothingToUndo : KnowsX0 P w K mg base "NothingToUndo" a.NothingToUndo) (Fu : FunD K "undo" "Desk.undo" (defArgs s_Desk_undo) (defBody s_Desk_undo) (defScope s_Desk_undo) [] [] f fd) : FnD P w K mg base 3 f fd ["self"] (sp_Desk_undo (a := a)) := by
  refine fun_ok Fu sc_Desk_undo ?_ (fun cdv A outer s H E hr => (dss_cons (ds_if (dt_cmp (eq0_ok hr.units) (de_fld T.clDesk T.nDesk_past (dv 0)) (de_tup da_nil) (nomark _)) (dss_one (ds_raise0 k_NothingToUndo (hr.mono (by decide)) tk0)) dss_nil)
      (dss_cons (ds_fld T.clDesk T.nDesk_held (dv 0) (de_ix (de_fld T.clDesk T.nDesk_past (dv 0)) (de_neg de_int)))
      (dss_one (ds_fld T.clDesk T.nDesk_past (dv 0) (de_slice (de_fld T.clDesk T.nDesk_past (dv 0)) do_none (do_some (de_neg de_int)))))))) ?_
  · rintro ds G Q E ⟨d, n, h, past, rfl, _⟩; rfl
  · rintro ds G Q E ⟨d, n, h, past, rfl, hd, q1, q2⟩
    refine ⟨_, .tup (past.map (heldD a n)), desk_ins hd, rfl, by show 0 ≤ sizeLine; decide, _, rfl, rfl, ?_⟩
    rcases List.eq_nil_or_concat past with rfl | ⟨p, g, rfl⟩
    · exact ⟨G, .refl G, q1 rfl⟩
    · have q := q2 p g (by simp)
      have el : ((p.concat g).map (heldD a n)) = p.map (heldD a n) ++ [heldD a n g] := by simp
      have ne : ((p.concat g).map (heldD a n)).isEmpty = false := by rw [el]; simp
      rw [ne]
      refine ite_ff ⟨_, .tup ((p.concat g).map (heldD a n)), desk_ins hd, rfl, _, heldD a n g, rfl, ?_, d, _, rfl, hd, by show 2 < 1000; decide, _, .tup ((p.concat g).map (heldD a n)), desk_ins put_same, rfl, d, _, rfl, put_same, by show 2 < 1000; decide, ret ?_⟩
      · rw [el]
        exact atI_last _ _
      · rw [put_put]
        show Q .non (put G d (.ins a.Desk [("held", heldD a n g), ("past", .tup (DL.cutD ((p.concat g).map (heldD a n)) none (some (-1))))]))
        rw [el, cut_last]
        exact q
end
end TP
end
section
set_option maxRecDepth 100000
set_option maxHeartbeats 1000000
/-! desks.py: Desk.changes, called in an except suite. -/
namespace TP
open PySem PySem.Spec PyProof.Rows DL
open L2 hiding Room FnOk takes0
section
variable {P : Program} {w : World} {K : PySem.W.Frag} {mg : Str → Option Value} {base : Heap} {a : Ad} {f : Addr} {fd : FuncData}
theorem okc_Desk_changes (T : Txt K w mg a) (Fu : FunD K "changes" "Desk.changes" (defArgs s_Desk_changes) (defBody s_Desk_changes) (defScope s_Desk_changes) [] [] f fd) : FnC P w K mg base 1 f fd ["self"] (sp_Desk_changes (a := a)) := by
  refine fun_okC Fu sc_Desk_changes ?_ (fun cdv A outer s H hr => (dss_one (ds_ret (de_callB len_okD T.len (by decide +kernel) (da_cons (de_fld T.clDesk T.nDesk_past (dv 0)) da_nil))))) ?_
  · rintro ds G Q E ⟨d, n, h, past, rfl, _⟩; rfl
  · rintro ds G Q E ⟨d, n, h, past, rfl, hd, q⟩
    refine ⟨_, .tup (past.map (heldD a n)), desk_ins hd, rfl, _, rfl, ret ?_⟩
    rw [List.length_map]
    exact q
end
end TP
end
section
set_option maxRecDepth 100000
set_option maxHeartbeats 1000000
set_option exponentiation.threshold 1000
/-! The law's own defs: drawing. -/
namespace TP
open PySem PySem.Spec PyProof.Rows DL
open L2 hiding Room FnOk takes0
/-! ### beside an address -/
def Beside (p : Addr) (G G' : GD) : Prop := ∀ q, q ≠ p → G' q = G q
theorem Beside.refl (p : Addr) (G : GD) : Beside p G G := fun _ _ => rfl
theorem Beside.trans {p : Addr} {G G1 G2 : GD} (a : Beside p G G1) (b : Beside p G1 G2) : Beside p G G2 := fun q h => (b q h).trans (a q h)
theorem Beside.put {p : Addr} {G : GD} {o : HOD} : Beside p G (put G p o) := fun q h => put_ne h
/-- all of G but at p, and perhaps more -/
def Near (p : Addr) (G G' : GD) : Prop := ∀ q o, q ≠ p → G q = some o → G' q = some o
theorem Near.refl (p : Addr) (G : GD) : Near p G G := fun _ _ _ h => h
theorem Near.call {p : Addr} {G G1 G2 : GD} (a : Near p G G1) (b : Beside p G1 G2) : Near p G G2 := fun q o h e => by rw [b q h]; exact a q o h e
theorem Near.fresh {p q : Addr} {G G1 : GD} {o : HOD} (a : Near p G G1) (h : G1 q = none) : Near p G (put G1 q o) := fun b u hb e => by
  have := a b u hb e
  rw [put_ne (fun z => by rw [z, h] at this; cases this)]
  exact this
/-- an own thing is changed: one that is not in G -/
theorem Near.own {p q : Addr} {G G1 : GD} {o : HOD} (a : Near p G G1) (h : G q = none) : Near p G (put G1 q o) := fun b u hb e => by
  rw [put_ne (fun z => by rw [z, h] at e; cases e)]
  exact a b u hb e
theorem Near.out {p : Addr} {G G1 : GD} (a : Near p G G1) : ∃ G', Less G' G1 ∧ Beside p G G' ∧ G' p = G1 p := by
  refine ⟨fun q => if q = p then G1 p else G q, fun q o e => ?_, fun q h => if_neg h, if_pos rfl⟩
  have e : (if q = p then G1 p else G q) = some o := e
  by_cases h : q = p
  · rw [if_pos h] at e
    rw [h]
    exact e
  · rw [if_neg h] at e
    exact a q o h e
/-! ### the purse -/
def purseO (x y z : Int) : HOD := .lst [.int x, .int y, .int z]
structure pOk (x y z : Int) (b : Nat) : Prop where
  x0 : 0 ≤ x
  x1 : x < 2147483497
  y0 : 0 ≤ y
  z0 : 0 ≤ z
  z1 : z + b ≤ 2 ^ 60
def AtPurse (p : Addr) (b : Nat) (G : GD) : Prop := ∃ x y z, G p = some (purseO x y z) ∧ pOk x y z b
theorem AtPurse.mono {p : Addr} {b c : Nat} {G : GD} (h : AtPurse p b G) (l : c ≤ b) : AtPurse p c G := by
  obtain ⟨x, y, z, e, h⟩ := h
  exact ⟨x, y, z, e, h.x0, h.x1, h.y0, h.z0, by have := h.z1; omega⟩
theorem AtPurse.at {p : Addr} {b : Nat} {G G' : GD} (h : AtPurse p b G) (e : G' p = G p) : AtPurse p b G' := by
  obtain ⟨x, y, z, e2, h⟩ := h
  exact ⟨x, y, z, e.trans e2, h⟩
theorem AtPurse.ne {p q : Addr} {b : Nat} {G : GD} (h : AtPurse p b G) (hq : G q = none) : p ≠ q := fun e => by
  obtain ⟨x, y, z, e2, _⟩ := h
  rw [e, hq] at e2
  cases e2
theorem seq_ref {G : GD} {p : Addr} {xs : List D} (h : G p = some (.lst xs)) : seqOf (.ref p) G = some xs := by
  show (match G p with
    | some (.lst xs) => some xs
    | _ => none) = _
  rw [h]
section
variable {P : Program} {w : World} {K : PySem.W.Frag} {mg : Str → Option Value} {base : Heap} {a : Ad} {f : Addr} {fd : FuncData}
def sp_take : SpD := fun ds G Q _ => ∃ p m b, ds = [.ref p, .int m] ∧ AtPurse p (b + 1) G ∧ 1 ≤ m ∧ m < 2 ^ 60 ∧ ∀ G' r, Beside p G G' → AtPurse p b G' → 0 ≤ r → r < m → Q (.int r) G'
theorem ok_take (T : Txt K w mg a) (Fu : FunD K "_law_take" "_law_take" (defArgs s_law_take) (defBody s_law_take) (defScope s_law_take) [] [] f fd) : FnD P w K mg base 1 f fd ["purse", "many"] sp_take := by
  refine fun_ok Fu sc_law_take ?_ (fun cdv A outer s H E hr => (dss_cons (ds_asg (de_add (de_ix (dv 0) de_int) de_int) (dg_sub (dv 0) de_int))
      (dss_cons (ds_if (dt_cmp gt_ok (de_ix (dv 0) de_int) de_int (nomark _)) (dss_cons (ds_asg (de_callB divmod_okD T.divmod (by decide +kernel) (da_cons (de_ix (dv 0) de_int) (da_cons (dv 1) da_nil))) (dg_tup (n := 2) rfl (dgs_cons (dg_sub (dv 0) de_int) (dgs_cons (dg_name (i := 5) sc_law_take.nd rfl (Or.inl rfl)) dgs_nil))))
      (dss_one (ds_ret (dv 5)))) dss_nil)
      (dss_cons (ds_par (i := 3) (j := 4) rfl sc_law_take.nd rfl rfl (by decide) rfl rfl (da_cons (de_callTy int_okD T.int_ (by decide +kernel) (da_cons (de_ix (dv 0) de_int) da_nil)) (da_cons (de_ix (dv 0) de_int) da_nil)) (by rfl))
      (dss_cons (ds_set (i := 2) sc_law_take.nd rfl (Or.inl rfl) (de_add (de_mod (de_callTy int_okD T.int_ (by decide +kernel) (da_cons (de_fdiv (dv 3) de_int) da_nil)) de_int) de_int))
      (dss_cons (ds_asg (de_mod (de_callTy int_okD T.int_ (by decide +kernel) (da_cons (de_add (de_add (de_mul (dv 3) (dv 2)) (de_mul (de_mul de_int (dv 4)) (dv 4))) de_int) da_nil)) de_int) (dg_sub (dv 0) de_int))
      (dss_one (ds_ret (de_mod (de_callTy int_okD T.int_ (by decide +kernel) (da_cons (de_fdiv (de_ix (dv 0) de_int) de_int) da_nil)) (dv 1)))))))))) ?_
  · rintro ds G Q E ⟨p, m, b, rfl, _⟩; rfl
  · rintro ds G Q E ⟨p, m, b, rfl, ⟨x, y, z, hp, hx⟩, h1, h2, q⟩
    obtain ⟨x0, x1, y0, z0, z1⟩ := hx
    have e1 : seqOf (.ref p) (put G p (.lst [.int x, .int y, .int (z + 1)])) = some [.int x, .int y, .int (z + 1)] := seq_ref put_same
    refine ⟨_, .int z, seq_ref hp, rfl, p, _, 2, 2, rfl, rfl, hp, rfl, _, .int y, e1, rfl, ite2 (fun c => ?_) (fun c => ?_)⟩
    · have c : 0 < y := of_decide_eq_true c
      refine ⟨_, .int y, e1, rfl, ⟨by omega, PyProof.noPylong_of_log2 ?_⟩, rfl, p, _, 1, 1, rfl, rfl, put_same, rfl, ret ?_⟩
      · have e : m.natAbs ≠ 0 := by omega
        exact Nat.lt_of_lt_of_le ((Nat.log2_lt e).mpr (by omega : m.natAbs < 2 ^ 60)) (by decide)
      · rw [put_put]
        exact q _ _ .put ⟨x, y / m, z + 1, put_same, x0, x1, Int.ediv_nonneg y0 (by omega), by omega, by omega⟩ (Int.emod_nonneg _ (by omega)) (Int.emod_lt_of_pos _ (by omega))
    · have d1 : 0 ≤ x / 11 := by omega
      have f0 : 0 ≤ x / 11 % 39989 + 30029 := by omega
      have f1 : x / 11 % 39989 + 30029 < 100000 := by omega
      refine ⟨_, .int x, e1, rfl, _, .int (z + 1), e1, rfl, CDivW.of (by decide) (by decide), by decide, mulOk (by omega) (by omega), ?_⟩
      have m1 : (60013 * (z + 1)).natAbs < 2 ^ 100 := by omega
      refine ⟨mulOk (by omega) (by omega), mulOk (by omega) (by omega), by decide, p, _, 0, 0, rfl, rfl, put_same, rfl, ?_⟩
      rw [put_put]
      have e2 : ∀ v, seqOf (.ref p) (put G p (.lst [v, .int y, .int (z + 1)])) = some [v, .int y, .int (z + 1)] := fun v => seq_ref put_same
      refine ⟨_, _, e2 _, rfl, CDivW.of (by decide) (by decide), by omega, ret ?_⟩
      exact q _ _ .put ⟨_, y, z + 1, put_same, Int.emod_nonneg _ (by decide), Int.emod_lt_of_pos _ (by decide), y0, by omega, by omega⟩ (Int.emod_nonneg _ (by omega)) (Int.emod_lt_of_pos _ (by omega))
def sp_one : SpD := fun ds G Q _ => ∃ p t xs b, ds = [.ref p, t] ∧ (t = .lst xs ∨ t = .tup xs) ∧ AtPurse p (b + 1) G ∧ 1 ≤ xs.length ∧ xs.length < 2 ^ 60 ∧ ∀ G' x, Beside p G G' → AtPurse p b G' → x ∈ xs → Q x G'
theorem ok_one (T : Txt K w mg a) (k_law_take : Knows P w K mg base "_law_take" 1 [] sp_take) (Fu : FunD K "_law_one" "_law_one" (defArgs s_law_one) (defBody s_law_one) (defScope s_law_one) [] [] f fd) : FnD P w K mg base 3 f fd ["purse", "things"] sp_one := by
  refine fun_ok Fu sc_law_one ?_ (fun cdv A outer s H E hr => (dss_one (ds_ret (de_ix (dv 1) (de_call k_law_take (hr.mono (by decide)) tk0 (da_cons (dv 0) (da_cons (de_callB len_okD T.len (by decide +kernel) (da_cons (dv 1) da_nil)) da_nil))))))) ?_
  · rintro ds G Q E ⟨p, t, xs, b, rfl, _⟩; rfl
  · rintro ds G Q E ⟨p, t, xs, b, rfl, ht, hp, h1, h2, q⟩
    have key : ∀ (G1 : GD) (r : Int), Beside p G G1 → AtPurse p b G1 → 0 ≤ r → r < xs.length → ∃ x, atI xs r = some x ∧ retD K Q x G1 := fun G1 r hb hp1 h0 hr => by
      obtain ⟨j, rfl⟩ := Int.eq_ofNat_of_zero_le h0
      have hj : j < xs.length := by omega
      exact ⟨xs[j], atI_nat (List.getElem?_eq_getElem hj), ret (q G1 _ hb hp1 (List.getElem_mem hj))⟩
    rcases ht with rfl | rfl
    · refine ⟨_, rfl, p, xs.length, b, rfl, hp, by omega, by omega, fun G1 r hb hp1 h0 hr => ?_⟩
      obtain ⟨x, e, k⟩ := key G1 r hb hp1 h0 hr
      exact ⟨xs, x, rfl, e, k⟩
    · refine ⟨_, rfl, p, xs.length, b, rfl, hp, by omega, by omega, fun G1 r hb hp1 h0 hr => ?_⟩
      obtain ⟨x, e, k⟩ := key G1 r hb hp1 h0 hr
      exact ⟨xs, x, rfl, e, k⟩
/-! ### a purse made -/
def J_purse2 : TDS := fun Dn s G => ∃ (cell : Int) (o0 o1 o4 : Option D), s = [o0, o1, some (.int cell), none, o4] ∧ ∀ p G', G p = none → (∀ q, q ≠ p → G' q = G q) → AtPurse p (2 ^ 59) G' → Dn.rt (.ref p) G'
def J_purse1 : TDS := fun Dn s G => ∃ (xs : List Int) (k : Nat) (cell : Int), s = [some (.scr (xs.map D.int)), some (.int k), some (.int cell), none, none] ∧ k < 10 ∧ ∀ p G', G p = none → (∀ q, q ≠ p → G' q = G q) → AtPurse p (2 ^ 59) G' → Dn.rt (.ref p) G'
def sp_purse : SpD := fun ds G Q _ => ∃ xs : List Int, ∃ k : Nat, ds = [.scr (xs.map D.int), .int k] ∧ k < 10 ∧ ∀ p G', G p = none → (∀ q, q ≠ p → G' q = G q) → AtPurse p (2 ^ 59) G' → Q (.ref p) G'
theorem ok_purse (T : Txt K w mg a) (Fu : FunD K "_law_purse" "_law_purse" (defArgs s_law_purse) (defBody s_law_purse) (defScope s_law_purse) [] [] f fd) : FnD P w K mg base 1 f fd ["script", "k"] sp_purse := by
  refine fun_ok Fu sc_law_purse ?_ (fun cdv A outer s H E hr => (dss_cons (ds_set (i := 2) sc_law_purse.nd rfl (Or.inl rfl) (de_ifExp (dt_cmp lt_ok (dv 1) (de_callB len_okD T.len (by decide +kernel) (da_cons (dv 0) da_nil)) (nomark _)) (de_ix (dv 0) (dv 1)) (de_add (de_mul de_int (dv 1)) de_int)))
      (dss_to (J_purse1) (dss_cons (ds_if (dt_cmp ge_ok (dv 1) (de_callB len_okD T.len (by decide +kernel) (da_cons (dv 0) da_nil)) (nomark _)) (dss_one (ds_for po0 rfl (di_seq (de_slice (dv 0) do_none (do_some de_int))) (dg_name (i := 4) sc_law_purse.nd rfl (Or.inl rfl)) (dss_one (ds_set (i := 2) sc_law_purse.nd rfl (Or.inl rfl) (de_mod (de_callTy int_okD T.int_ (by decide +kernel) (da_cons (de_add (de_mul (dv 2) de_int) (de_mul (dv 4) (de_add (dv 1) de_int))) da_nil)) de_int))))) dss_nil)
      (dss_to (J_purse2) (dss_cons (ds_set (i := 3) sc_law_purse.nd rfl (Or.inl rfl) (de_ifExp (dt_w (dw_or (dt_cmp lt_ok (dv 2) de_int (nomark _)) (dw_or1 (dt_cmp ge_ok (dv 2) (de_pow de_int de_int) (nomark _))))) (de_callB abs_okD T.abs (by decide +kernel) (da_cons (dv 2) da_nil)) de_int))
      (dss_one (ds_ret (de_lstM (da_cons (de_mod (de_callTy int_okD T.int_ (by decide +kernel) (da_cons (dv 2) da_nil)) de_int) (da_cons (dv 3) (da_cons de_int da_nil))))))) ?_)) ?_))) ?_
  · rintro ds G Q E ⟨xs, k, rfl, _⟩; rfl
  · rintro Dn s G ⟨cell, o0, o1, o4, rfl, q⟩
    have fin : ∀ fig : Int, 0 ≤ fig → 3 ≤ sizeLine ∧ ∀ p, G p = none → Dn.rt (.ref p) (put G p (purseO (cell % 2147483497) fig 0)) := fun fig h0 => ⟨by decide, fun p hp => q p _ hp (fun r hr => put_ne hr) ⟨_, _, _, put_same, Int.emod_nonneg _ (by decide), Int.emod_lt_of_pos _ (by decide), h0, by decide, by decide⟩⟩
    refine ite2 (fun c => ?_) (fun c => ⟨⟨by decide, by decide, by decide⟩, ite2 (fun c2 => ?_) (fun c2 => ?_)⟩)
    · exact ⟨by decide, fin _ (by split <;> omega)⟩
    · exact ⟨by decide, fin _ (by split <;> omega)⟩
    · exact ⟨by decide, fin 0 (by decide)⟩
  · rintro Dn s G ⟨xs, k, cell, rfl, hk, q⟩
    refine ⟨_, rfl, ite2 (fun c => ⟨_, rfl, _, rfl, ?_⟩) (fun c => ⟨cell, _, _, none, rfl, q⟩)⟩
    refine loop_inv (fun rest s G' => ∃ (left : List Int) (cell : Int) (o4 : Option D), rest = left.map D.int ∧ s = [some (.scr (xs.map D.int)), some (.int k), some (.int cell), none, o4] ∧ G' = G) ?_ ?_ ⟨xs.take 4, cell, none, ?_, rfl, rfl⟩
    · rintro d ds s G' ⟨left, cell, o4, hr, rfl, rfl⟩ R hR
      cases left with
      | nil => cases hr
      | cons x left =>
        cases hr
        exact ⟨CMul.ok (.inr ⟨by decide, by decide⟩), CMul.ok (.inr ⟨by omega, by omega⟩), by decide, hR _ _ ⟨left, _, _, rfl, rfl, rfl⟩⟩
    · rintro s G' ⟨left, cell, o4, hr, rfl, rfl⟩
      exact ⟨cell, _, _, o4, rfl, q⟩
    · show DL.cutD (xs.map D.int) none (some ((4 : Nat) : Int)) = _
      rw [cut_to, List.map_take]
  · rintro ds G Q E ⟨xs, k, rfl, hk, q⟩
    have fin : ∀ cell : Int, J_purse1 (endsOf K Q E) [some (.scr (xs.map D.int)), some (.int k), some (.int cell), none, none] G := fun cell => ⟨xs, k, cell, rfl, hk, fun p G' hp hb ha => ret (q p G' hp hb ha)⟩
    refine ⟨_, rfl, ite2 (fun c => ?_) (fun c => ?_)⟩
    · have c : (k : Int) < ((xs.map D.int).length : Nat) := of_decide_eq_true c
      rw [List.length_map] at c
      have hk2 : k < xs.length := by omega
      exact ⟨_, .int xs[k], rfl, atI_nat (by rw [List.getElem?_map, List.getElem?_eq_getElem hk2]; rfl), fin _⟩
    · exact ⟨mulOk (by omega) (by omega), fin _⟩
end
end TP
end
section
set_option maxRecDepth 100000
set_option maxHeartbeats 1000000
set_option exponentiation.threshold 1000
/-! The law's own defs: drawn names, touches, passes. -/
namespace TP
open PySem PySem.Spec PyProof.Rows DL
open L2 hiding Room FnOk takes0
/-- a name that is drawn -/
structure GoodName (z : Str) : Prop where
  ok : isNameS z = true
  old : z ≠ "old"
  six : z.length ≠ 6
/-- a word of k + 1 signs under way -/
structure WordOk (k : Nat) (z : Str) : Prop where
  len : z.length = k + 1
  head : ∃ c r, z.cps.toList = c :: r ∧ c ∈ lettersS.cps.toList
  all : z.cps.toList.all signOk = true
theorem WordOk.snoc {k : Nat} {z : Str} (h : WordOk k z) {c : Nat} (hc : signOk c = true) : WordOk (k + 1) (z ++ ⟨#[c]⟩) := by
  have e : (z ++ (⟨#[c]⟩ : Str)).cps.toList = z.cps.toList ++ [c] := by
    show (z.cps ++ #[c]).toList = _
    simp
  refine ⟨?_, ?_, ?_⟩
  · rw [Str.length_append, h.len]
    rfl
  · obtain ⟨x, r, e1, h1⟩ := h.head
    exact ⟨x, r ++ [c], by rw [e, e1]; rfl, h1⟩
  · rw [e, List.all_append, h.all]
    simp [hc]
theorem WordOk.name {k : Nat} {z : Str} (h : WordOk k z) (hk : k ≤ 7) : isNameS z = true := by
  obtain ⟨c, r, e, hc⟩ := h.head
  unfold isNameS
  have h1 : 1 ≤ z.length := by have := h.len; omega
  have h2 : z.length ≤ 8 := by have := h.len; omega
  have hall := h.all
  rw [e] at hall ⊢
  rw [hall, decide_eq_true h1, decide_eq_true h2]
  simp [hc]
theorem first_ok {c : Nat} (h : c ∈ lettersS.cps.toList) : WordOk 0 ⟨#[c]⟩ := by
  refine ⟨rfl, ⟨c, [], rfl, h⟩, ?_⟩
  have key : ∀ c ∈ lettersS.cps.toList, signOk c = true := by decide +kernel
  show (signOk c && true) = true
  rw [key c h]
  rfl
theorem fixed_ok : ∀ z ∈ (["pass", "on", "stop", "touch", "track", "write"] : List Str), isNameS z = true ∧ z.length ≠ 6 ∧ z ≠ "old" := by decide +kernel
theorem same_ok : ∀ k : Fin 10, isNameS ("same" ++ (Str.ofString (toString ((k.val : Nat) : Int)))) = true ∧ ("same" ++ (Str.ofString (toString ((k.val : Nat) : Int))) : Str).length = 5 := by decide +kernel
theorem letters36 : ∀ c ∈ ("abcdefghijklmnopqrstuvwxyz0123456789" : Str).cps.toList, signOk c = true := by decide +kernel
theorem str_at {z : Str} {r : Int} (h0 : 0 ≤ r) (h1 : r < z.length) : ∃ c, atI z.cps.toList r = some c ∧ c ∈ z.cps.toList := by
  obtain ⟨j, rfl⟩ := Int.eq_ofNat_of_zero_le h0
  have hj : j < z.cps.toList.length := by
    rw [Array.length_toList]
    have h1 : (j : Int) < (z.cps.size : Nat) := h1
    omega
  exact ⟨_, atI_nat (List.getElem?_eq_getElem hj), List.getElem_mem hj⟩
theorem five_ne_old {z : Str} (h : z.length = 5) : z ≠ "old" := fun e => by
  have : ("old" : Str).length = 5 := by rw [← e]; exact h
  exact absurd this (by decide +kernel)
/-- touches that are drawn -/
theorem gaps_snoc : ∀ {ts : List (Int × Int)} {t : Int × Int}, gapsD (ts.map pr) = true → (∀ u ∈ ts.getLast?, u.2 < t.1) → gapsD ((ts ++ [t]).map pr) = true
  | [], _, _, _ => rfl
  | [u], t, _, h => by
    have h : u.2 < t.1 := h u (by simp)
    show (decide (u.2 < t.1) && gapsD [pr t]) = true
    rw [decide_eq_true h]
    rfl
  | u :: v :: ts, t, hg, h => by
    have hg : (decide (u.2 < v.1) && gapsD ((v :: ts).map pr)) = true := hg
    rw [Bool.and_eq_true] at hg
    have ih := gaps_snoc (ts := v :: ts) (t := t) hg.2 (by simpa using h)
    show (decide (u.2 < v.1) && gapsD ((v :: ts ++ [t]).map pr)) = true
    rw [hg.1, ih]
    rfl
structure TouchesOk (x y : Int) (ts : List (Int × Int)) : Prop where
  few : ts.length ≤ 3
  all : ∀ t ∈ ts, x ≤ t.1 ∧ t.1 < t.2 ∧ t.2 ≤ y
  gaps : gapsD (ts.map pr) = true
theorem typed3_touches (ts : List (Int × Int)) : typed3 (.tup (ts.map pr)) = true := by
  show (true && (ts.map pr).all typed2) = true
  rw [Bool.true_and, List.all_map]
  exact List.all_eq_true.mpr fun _ _ => rfl
theorem ask_of {n : Int} {p : Pass} (h : RightP n p) : askable p.d :=
  ⟨rfl, ⟨rfl, Nat.le_trans (name_len h.name) (by decide)⟩, rfl, rfl, rfl, ⟨typed3_touches _, by show (p.touches.map pr).length ≤ _; rw [List.length_map]; exact Nat.le_trans h.few (by decide)⟩, rfl, rfl⟩
section
variable {P : Program} {w : World} {K : PySem.W.Frag} {mg : Str → Option Value} {base : Heap} {a : Ad} {f : Addr} {fd : FuncData}
def sp_names : SpD := fun ds G Q _ => ∃ p b, ∃ m : Nat, ds = [.ref p, .int m] ∧ m < 10 ∧ AtPurse p (b + 11 * m) G ∧ ∀ G', ∀ zs : List Str, Beside p G G' → AtPurse p b G' → zs.length = m → (∀ z ∈ zs, GoodName z) → Q (.lst (zs.map D.str)) G'
/-- ahead of the name's being kept -/
def J_names1 : TDS := fun Dn s G => ∃ p m pf, ∃ k : Int, ∃ z, ∃ zs : List Str, ∃ o5, s = [some (.ref p), some m, some (.ref pf), some (.int k), some (.str z), o5] ∧ 0 ≤ k ∧ k < 10 ∧ G pf = some (.lst (zs.map D.str)) ∧ zs.length < 1000 ∧ isNameS z = true ∧ z.length ≠ 6 ∧
  ∀ z', GoodName z' → Dn.nx s (put G pf (.lst ((zs ++ [z']).map D.str)))
theorem ok_names (T : Txt K w mg a) (k_law_take : Knows P w K mg base "_law_take" 1 [] sp_take) (k_law_one : Knows P w K mg base "_law_one" 3 [] sp_one) (Fu : FunD K "_law_names" "_law_names" (defArgs s_law_names) (defBody s_law_names) (defScope s_law_names) [] [] f fd) : FnD P w K mg base 5 f fd ["purse", "many"] sp_names := by
  refine fun_ok Fu sc_law_names ?_ (fun cdv A outer s H E hr => (dss_cons (ds_set (i := 2) sc_law_names.nd rfl (Or.inl rfl) (de_lstM da_nil))
      (dss_cons (ds_for po0 rfl (di_range1 T.range (da_cons (dv 1) da_nil)) (dg_name (i := 3) sc_law_names.nd rfl (Or.inl rfl)) (dss_cons (ds_set (i := 4) sc_law_names.nd rfl (Or.inl rfl) (de_ix de_str (de_call k_law_take (hr.mono (by decide)) tk0 (da_cons (dv 0) (da_cons de_int da_nil)))))
      (dss_cons (ds_for po0 rfl (di_range1 T.range (da_cons (de_call k_law_one (hr.mono (by decide)) tk0 (da_cons (dv 0) (da_cons (de_lst (da_cons de_int (da_cons de_int (da_cons de_int (da_cons de_int (da_cons de_int da_nil)))))) da_nil))) da_nil)) (dg_name (i := 5) sc_law_names.nd rfl (Or.inl rfl)) (dss_one (ds_set (i := 4) sc_law_names.nd rfl (Or.inl rfl) (de_add (dv 4) (de_ix de_str (de_call k_law_take (hr.mono (by decide)) tk0 (da_cons (dv 0) (da_cons de_int da_nil))))))))
      (dss_cons (ds_if (dt_cmp (eq_ok hr.units) (de_call k_law_take (hr.mono (by decide)) tk0 (da_cons (dv 0) (da_cons de_int da_nil))) de_int (nomark _)) (dss_one (ds_set (i := 4) sc_law_names.nd rfl (Or.inl rfl) (de_call k_law_one (hr.mono (by decide)) tk0 (da_cons (dv 0) (da_cons (de_lst (da_cons de_str (da_cons de_str (da_cons de_str (da_cons de_str (da_cons de_str (da_cons de_str da_nil))))))) da_nil))))) dss_nil)
      (dss_to (J_names1) (dss_one (ds_expr (de_append (dv 2) (da_cons (de_ifExp (dt_w (dw_or (dt_cmp in_ok (dv 4) (dv 2) (by rfl)) (dw_or1 (dt_cmp (eq_ok hr.units) (dv 4) de_str (nomark _))))) (de_add de_str (de_callTy str_okD T.str_ (by decide +kernel) (da_cons (dv 3) da_nil))) (dv 4)) da_nil)))) ?_)))))
      (dss_one (ds_ret (dv 2)))))) ?_
  · rintro ds G Q E ⟨p, b, m, rfl, _⟩; rfl
  · rintro Dn s G ⟨p, m, pf, k, z, zs, o5, rfl, k0, k1, hpf, hl, hz, h6, q⟩
    have keep : ∀ z', GoodName z' → ∃ xs, G pf = some (.lst xs) ∧ xs.length < sizeLine ∧ Dn.nx [some (.ref p), some m, some (.ref pf), some (.int k), some (.str z), o5] (put G pf (.lst (xs ++ [.str z']))) := fun z' h => ⟨_, hpf, by rw [List.length_map]; exact Nat.lt_of_lt_of_le hl (by decide), by
      have := q z' h
      rw [List.map_append] at this
      exact this⟩
    have same : GoodName ("same" ++ numS k) := by
      obtain ⟨j, rfl⟩ := Int.eq_ofNat_of_zero_le k0
      obtain ⟨h1, h2⟩ := same_ok ⟨j, by omega⟩
      exact ⟨h1, five_ne_old h2, by rw [h2]; decide⟩
    have lk : ("same" : Str).length + (numS k).length ≤ sizeLine := by
      have h1 : (numS k).length ≤ 13 := tick.len ⟨k0, by omega⟩
      have h2 : ("same" : Str).length = 4 := by decide +kernel
      rw [h2]
      exact Nat.le_trans (Nat.add_le_add_left h1 4) (by decide)
    refine ⟨pf, _, rfl, hpf, _, seq_ref hpf, rfl, flat_strsD zs, ?_⟩
    rw [in_strs]
    exact ite2 (fun c => ⟨tick.log ⟨k0, by omega⟩, lk, keep _ same⟩) (fun c => ite2 (fun c2 => ⟨tick.log ⟨k0, by omega⟩, lk, keep _ same⟩) (fun c2 => keep _ ⟨hz, fun e => c2 (decide_eq_true e), h6⟩))
  · rintro ds G Q E ⟨p, b, m, rfl, hm, hp, q⟩
    refine ⟨by decide, fun pf hpf => ⟨⟨by omega, by omega⟩, ?_⟩⟩
    have pne := hp.ne hpf
    refine loop_inv (fun rest s Gc => ∃ (n : Nat) (lo : Int) (zs : List Str) (o3 o4 o5 : Option D), rest = intsFrom lo n ∧ 0 ≤ lo ∧ lo + n = m ∧ (zs.length : Int) = lo ∧ (∀ z ∈ zs, GoodName z) ∧ s = [some (.ref p), some (.int m), some (.ref pf), o3, o4, o5] ∧
      Near p G Gc ∧ Gc pf = some (.lst (zs.map D.str)) ∧ AtPurse p (b + 11 * n) Gc) ?_ ?_ ⟨m, 0, [], none, none, none, by rw [Int.toNat_natCast], Int.le_refl _, by omega, rfl, fun _ h => (List.not_mem_nil h).elim, rfl, (Near.refl p G).fresh hpf, put_same, hp.at (put_ne pne)⟩
    · rintro d ds s Gc ⟨n, lo, zs, o3, o4, o5, hr, h0, hn, hl, hg, rfl, near, hf, hpu⟩ R hR
      cases n with
      | zero => cases hr
      | succ n =>
        cases hr
        have hpu : AtPurse p (b + 11 * n + 10 + 1) Gc := hpu.mono (by omega)
        refine ⟨p, 26, _, rfl, hpu, by decide, by decide, fun G1 r b1 hp1 r0 r1 => ⟨by decide +kernel, ?_⟩⟩
        obtain ⟨c, hc, hcm⟩ := str_at (z := "abcdefghijklmnopqrstuvwxyz") r0 (by rw [show ("abcdefghijklmnopqrstuvwxyz" : Str).length = 26 by decide +kernel]; exact r1)
        refine ⟨c, hc, by show 5 ≤ sizeLine; decide, p, _, _, b + 11 * n + 9, rfl, .inl rfl, hp1, by decide, by decide, fun G2 x b2 hp2 hx => ?_⟩
        obtain ⟨j, rfl, hj⟩ : ∃ j : Nat, x = .int j ∧ (j = 0 ∨ j = 1 ∨ j = 2 ∨ j = 7) := by
          simp only [List.mem_cons, List.not_mem_nil, or_false] at hx
          rcases hx with rfl | rfl | rfl | rfl | rfl
          · exact ⟨0, rfl, .inl rfl⟩
          · exact ⟨0, rfl, .inl rfl⟩
          · exact ⟨1, rfl, .inr (.inl rfl)⟩
          · exact ⟨2, rfl, .inr (.inr (.inl rfl))⟩
          · exact ⟨7, rfl, .inr (.inr (.inr rfl))⟩
        have hj7 : j ≤ 7 := by omega
        refine ⟨⟨by omega, by omega⟩, ?_⟩
        have b12 := b1.trans b2
        refine loop_inv (fun rest s G3 => ∃ (i n2 : Nat) (lo2 : Int) (z : Str) (o5 : Option D), rest = intsFrom lo2 n2 ∧ i + n2 = j ∧ WordOk i z ∧ s = [some (.ref p), some (.int m), some (.ref pf), some (.int lo), some (.str z), o5] ∧ Beside p Gc G3 ∧ AtPurse p (b + 11 * n + 2 + n2) G3) ?_ ?_
          ⟨0, j, 0, _, o5, by rw [Int.toNat_natCast], by omega, first_ok hcm, rfl, b12, hp2.mono (by omega)⟩
        · rintro d ds s G3 ⟨i, n2, lo2, z, o5, hr, hi, hz, rfl, b3, hp3⟩ R3 hR3
          cases n2 with
          | zero => cases hr
          | succ n2 =>
            cases hr
            refine ⟨p, 36, b + 11 * n + 2 + n2, rfl, hp3, by decide, by decide, fun G4 r b4 hp4 r0 r1 => ⟨by decide +kernel, ?_⟩⟩
            obtain ⟨c, hc, hcm⟩ := str_at (z := "abcdefghijklmnopqrstuvwxyz0123456789") r0 (by rw [show ("abcdefghijklmnopqrstuvwxyz0123456789" : Str).length = 36 by decide +kernel]; exact r1)
            refine ⟨c, hc, ?_, hR3 _ _ ⟨i + 1, n2, _, _, _, rfl, by omega, hz.snoc (letters36 c hcm), rfl, b3.trans b4, hp4⟩⟩
            have := hz.len
            show z.length + 1 ≤ _
            exact Nat.le_trans (by omega : _ ≤ 20) (by decide)
        · rintro s G3 ⟨i, n2, lo2, z, o5, hr, hi, hz, rfl, b3, hp3⟩
          cases n2 with
          | succ n2 => cases hr
          | zero =>
            have hij : i = j := by omega
            subst hij
            have hname := hz.name hj7
            have hlen := hz.len
            have hf3 : ∀ G4, Beside p G3 G4 → G4 pf = some (.lst (zs.map D.str)) := fun G4 b4 => by rw [(b3.trans b4) pf pne.symm]; exact hf
            have next : ∀ G4, Beside p G3 G4 → AtPurse p (b + 11 * n) G4 → ∀ z z', GoodName z' → R [some (.ref p), some (.int m), some (.ref pf), some (.int lo), some (.str z), o5] (put G4 pf (.lst ((zs ++ [z']).map D.str))) := fun G4 b4 hp4 z z' hz' =>
              hR _ _ ⟨n, lo + 1, zs ++ [z'], _, _, _, rfl, by omega, by omega, by simp; omega, fun u hu => by
                rcases List.mem_append.mp hu with hu | hu
                · exact hg u hu
                · obtain rfl := List.mem_singleton.mp hu
                  exact hz', rfl, (near.call (b3.trans b4)).own hpf, put_same, hp4.at (put_ne pne)⟩
            refine ⟨p, 8, b + 11 * n + 1, rfl, hp3, by decide, by decide, fun G4 r b4 hp4 r0 r1 => ite2 (fun c => ?_) (fun c => ?_)⟩
            · refine ⟨by show 6 ≤ sizeLine; decide, p, _, _, b + 11 * n, rfl, .inl rfl, hp4, by decide, by decide, fun G5 x b5 hp5 hx => ?_⟩
              obtain ⟨z2, hz2, rfl⟩ : ∃ z2 ∈ (["pass", "on", "stop", "touch", "track", "write"] : List Str), x = .str z2 := by
                have hx : x ∈ (["pass", "on", "stop", "touch", "track", "write"] : List Str).map D.str := hx
                obtain ⟨z2, h1, h2⟩ := List.mem_map.mp hx
                exact ⟨z2, h1, h2.symm⟩
              obtain ⟨f1, f2, f3⟩ := fixed_ok z2 hz2
              exact ⟨p, _, pf, lo, z2, zs, o5, rfl, h0, by omega, hf3 _ (b4.trans b5), by omega, f1, f2, next _ (b4.trans b5) hp5 _⟩
            · exact ⟨p, _, pf, lo, z, zs, o5, rfl, h0, by omega, hf3 _ b4, by omega, hname, by omega, next _ b4 (hp4.mono (by omega)) _⟩
    · rintro s Gc ⟨n, lo, zs, o3, o4, o5, hr, h0, hn, hl, hg, rfl, near, hf, hpu⟩
      cases n with
      | succ n => cases hr
      | zero =>
        have hn2 : Near p G (DL.del Gc pf) := fun q o hq e => by
          have ne : q ≠ pf := fun z => by rw [z, hpf] at e; cases e
          rw [DL.del_ne ne]
          exact near q o hq e
        obtain ⟨G', l, b', hp'⟩ := hn2.out
        refine ⟨_, G', (Can.lst hf).trans (Can.less l), q G' zs b' (hpu.at ?_) (by omega) hg⟩
        rw [hp', DL.del_ne pne]
def sp_touches : SpD := fun ds G Q _ => ∃ p x y b, ds = [.ref p, .int x, .int y] ∧ AtPurse p (b + 7) G ∧ ∀ G', ∀ ts : List (Int × Int), Beside p G G' → AtPurse p b G' → TouchesOk x y ts → Q (.tup (ts.map pr)) G'
theorem ok_touches (T : Txt K w mg a) (k_law_take : Knows P w K mg base "_law_take" 1 [] sp_take) (Fu : FunD K "_law_touches" "_law_touches" (defArgs s_law_touches) (defBody s_law_touches) (defScope s_law_touches) [] [] f fd) : FnD P w K mg base 3 f fd ["purse", "first", "last"] sp_touches := by
  refine fun_ok Fu sc_law_touches ?_ (fun cdv A outer s H E hr => (dss_cons (ds_par (i := 4) (j := 5) rfl sc_law_touches.nd rfl rfl (by decide) rfl rfl (da_cons (de_lstM da_nil) (da_cons (dv 1) da_nil)) (by rfl))
      (dss_cons (ds_for po0 rfl (di_range1 T.range (da_cons (de_call k_law_take (hr.mono (by decide)) tk0 (da_cons (dv 0) (da_cons de_int da_nil))) da_nil)) (dg_name (i := 3) sc_law_touches.nd rfl (Or.inl rfl)) (dss_cons (ds_set (i := 6) sc_law_touches.nd rfl (Or.inl rfl) (de_add (dv 5) (de_call k_law_take (hr.mono (by decide)) tk0 (da_cons (dv 0) (da_cons de_int da_nil)))))
      (dss_cons (ds_set (i := 7) sc_law_touches.nd rfl (Or.inl rfl) (de_add (de_add (dv 6) de_int) (de_call k_law_take (hr.mono (by decide)) tk0 (da_cons (dv 0) (da_cons de_int da_nil)))))
      (dss_cons (ds_if (dt_cmp gt_ok (dv 7) (dv 2) (nomark _)) (dss_one ds_break) dss_nil)
      (dss_cons (ds_expr (de_append (dv 4) (da_cons (de_tup (da_cons (dv 6) (da_cons (dv 7) da_nil))) da_nil)))
      (dss_one (ds_set (i := 5) sc_law_touches.nd rfl (Or.inl rfl) (de_add (dv 7) de_int))))))))
      (dss_one (ds_ret (de_callTy tuple_okD T.tuple_ (by decide +kernel) (da_cons (dv 4) da_nil))))))) ?_
  · rintro ds G Q E ⟨p, x, y, b, rfl, _⟩; rfl
  · rintro ds G Q E ⟨p, x, y, b, rfl, hp, q⟩
    refine ⟨by decide, fun pf hpf => ⟨p, 4, b + 6, rfl, ?_, by decide, by decide, fun G1 r b1 hp1 r0 r1 => ⟨⟨by omega, by omega⟩, ?_⟩⟩⟩
    · exact hp.at (put_ne (hp.ne hpf))
    have pne := hp.ne hpf
    have near1 : Near p G G1 := ((Near.refl p G).fresh hpf).call b1
    have hf1 : G1 pf = some (.lst []) := by rw [b1 pf pne.symm, put_same]
    have fin : ∀ (s : SD) Gc (ts : List (Int × Int)), s[4]? = some (some (.ref pf)) → Near p G Gc → Gc pf = some (.lst (ts.map pr)) → AtPurse p b Gc → TouchesOk x y ts → ∃ xs, seqOf (.ref pf) Gc = some xs ∧ retD K Q (.tup xs) Gc := fun s Gc ts _ near hf hpu hts => by
      obtain ⟨G', l, b', hp'⟩ := near.out
      exact ⟨_, seq_ref hf, _, G', Can.less l, q G' ts b' (hpu.at hp') hts⟩
    obtain ⟨j, rfl⟩ := Int.eq_ofNat_of_zero_le r0
    refine loop_inv (fun rest s Gc => ∃ (n : Nat) (lo sp : Int) (ts : List (Int × Int)) (o3 o6 o7 : Option D), rest = intsFrom lo n ∧ n + ts.length ≤ 3 ∧ x ≤ sp ∧ (∀ u ∈ ts.getLast?, u.2 < sp) ∧ TouchesOk x y ts ∧ s = [some (.ref p), some (.int x), some (.int y), o3, some (.ref pf), some (.int sp), o6, o7] ∧
      Near p G Gc ∧ Gc pf = some (.lst (ts.map pr)) ∧ AtPurse p (b + 2 * n) Gc) ?_ ?_ ⟨j, 0, x, [], none, none, none, by rw [Int.toNat_natCast], by simp; omega, Int.le_refl _, by simp, ⟨by decide, fun _ h => (List.not_mem_nil h).elim, rfl⟩, rfl, near1, hf1, hp1.mono (by omega)⟩
    · rintro d ds s Gc ⟨n, lo, sp, ts, o3, o6, o7, hr, hn, hx, hsp, hts, rfl, near, hf, hpu⟩ R hR
      cases n with
      | zero => cases hr
      | succ n =>
        cases hr
        have hpu : AtPurse p (b + 2 * n + 1 + 1) Gc := hpu.mono (by omega)
        refine ⟨p, 3, _, rfl, hpu, by decide, by decide, fun G2 r2 b2 hp2 r20 r21 => ⟨p, 4, b + 2 * n, rfl, hp2, by decide, by decide, fun G3 r3 b3 hp3 r30 r31 => ?_⟩⟩
        have near3 := (near.call b2).call b3
        have hf3 : G3 pf = some (.lst (ts.map pr)) := by rw [(b2.trans b3) pf pne.symm]; exact hf
        refine ite2 (fun c => ?_) (fun c => ?_)
        · exact fin [none, none, none, none, some (.ref pf)] G3 ts rfl near3 hf3 (hp3.mono (by omega)) hts
        · have c : ¬ y < sp + r2 + 1 + r3 := fun z => c (decide_eq_true z)
          refine ⟨pf, _, rfl, hf3, by show 2 ≤ sizeLine; decide, _, hf3, by rw [List.length_map]; exact Nat.lt_of_lt_of_le (by omega : _ < 10) (by decide), hR _ _ ⟨n, lo + 1, sp + r2 + 1 + r3 + 1, ts ++ [(sp + r2, sp + r2 + 1 + r3)], _, _, _, rfl, by simp; omega, by omega, ?_, ⟨?_, ?_, gaps_snoc hts.gaps fun u hu => ?_⟩, rfl, near3.own hpf, ?_, hp3.at (put_ne pne)⟩⟩
          · intro u hu
            rw [List.getLast?_append] at hu
            simp at hu
            subst hu
            show sp + r2 + 1 + r3 < _
            omega
          · rw [List.length_append]
            simp only [List.length_cons, List.length_nil]
            omega
          · intro t ht
            rcases List.mem_append.mp ht with ht | ht
            · exact hts.all t ht
            · obtain rfl := List.mem_singleton.mp ht
              exact ⟨by show x ≤ sp + r2; omega, by show sp + r2 < sp + r2 + 1 + r3; omega, by show sp + r2 + 1 + r3 ≤ y; omega⟩
          · have := hsp u hu
            show u.2 < sp + r2
            omega
          · rw [put_same, List.map_append]
            rfl
    · rintro s Gc ⟨n, lo, sp, ts, o3, o6, o7, hr, hn, hx, hsp, hts, rfl, near, hf, hpu⟩
      exact fin [none, none, none, none, some (.ref pf)] Gc ts rfl near hf (hpu.mono (by omega)) hts
def sp_pass : SpD := fun ds G Q _ => ∃ p z n g b, ds = [.ref p, .str z, .int n, .int g] ∧ AtPurse p (b + 14) G ∧ 1 ≤ n ∧ n ≤ 10 ^ 12 ∧ 1 ≤ g ∧ g ≤ 101 ∧ isNameS z = true ∧ z ≠ "old" ∧ ∀ G', ∀ u : Pass, Beside p G G' → AtPurse p b G' → RightP n u → u.name = z → Q u.d G'
def J_pass1 : TDS := fun Dn s G => ∃ p z n g b x, s = [some (.ref p), some (.str z), some (.int n), some (.int g), some (.int x), none, none, none] ∧ AtPurse p (b + 11) G ∧ 0 ≤ x ∧ x < n ∧ n ≤ 10 ^ 12 ∧ 1 ≤ g ∧ g ≤ 101 ∧ isNameS z = true ∧ z ≠ "old" ∧
  ∀ G', ∀ u : Pass, Beside p G G' → AtPurse p b G' → RightP n u → u.name = z → Dn.rt u.d G'
theorem ok_pass (T : Txt K w mg a) (k_law_take : Knows P w K mg base "_law_take" 1 [] sp_take) (k_law_one : Knows P w K mg base "_law_one" 3 [] sp_one) (k_law_touches : Knows P w K mg base "_law_touches" 3 [] sp_touches)
    (Fu : FunD K "_law_pass" "_law_pass" (defArgs s_law_pass) (defBody s_law_pass) (defScope s_law_pass) [] [] f fd) : FnD P w K mg base 5 f fd ["purse", "name", "length", "glides"] sp_pass := by
  refine fun_ok Fu sc_law_pass ?_ (fun cdv A outer s H E hr => (dss_cons (ds_set (i := 4) sc_law_pass.nd rfl (Or.inl rfl) (de_call k_law_take (hr.mono (by decide)) tk0 (da_cons (dv 0) (da_cons (de_ifExp (dt_cmp (eq_ok hr.units) (de_call k_law_take (hr.mono (by decide)) tk0 (da_cons (dv 0) (da_cons de_int da_nil))) de_int (nomark _)) (dv 2) (de_add de_int (de_fdiv (dv 2) de_int))) da_nil))))
      (dss_to (J_pass1) (dss_cons (ds_set (i := 5) sc_law_pass.nd rfl (Or.inl rfl) (de_add (de_add (dv 4) de_int) (de_call k_law_take (hr.mono (by decide)) tk0 (da_cons (dv 0) (da_cons (de_sub (dv 2) (dv 4)) da_nil)))))
      (dss_cons (ds_par (i := 6) (j := 7) rfl sc_law_pass.nd rfl rfl (by decide) rfl rfl (da_cons (de_call k_law_one (hr.mono (by decide)) tk0 (da_cons (dv 0) (da_cons (de_lst (da_cons de_str (da_cons de_str (da_cons de_str (da_cons de_str da_nil))))) da_nil))) (da_cons (de_call k_law_touches (hr.mono (by decide)) tk0 (da_cons (dv 0) (da_cons (dv 4) (da_cons (dv 5) da_nil)))) da_nil)) (by rfl))
      (dss_one (ds_ret (de_tup (da_cons (dv 1) (da_cons (dv 6) (da_cons (dv 4) (da_cons (dv 5) (da_cons (dv 7) (da_cons (de_call k_law_take (hr.mono (by decide)) tk0 (da_cons (dv 0) (da_cons (dv 3) da_nil))) (da_cons (de_call k_law_one (hr.mono (by decide)) tk0 (da_cons (dv 0) (da_cons (de_lst (da_cons de_str (da_cons de_str da_nil))) da_nil))) da_nil)))))))))))) ?_))) ?_
  · rintro ds G Q E ⟨p, z, n, g, b, rfl, _⟩; rfl
  · rintro Dn s G ⟨p, z, n, g, b, x, rfl, hp, x0, x1, hn, g1, g2, hz, ho, q⟩
    refine ⟨p, n - x, b + 10, rfl, hp, by omega, by omega, fun G1 r b1 hp1 r0 r1 => ?_⟩
    refine ⟨by show 4 ≤ sizeLine; decide, p, _, _, b + 9, rfl, .inl rfl, hp1, by decide, by decide, fun G2 y b2 hp2 hy => ?_⟩
    obtain ⟨m, hm, rfl⟩ : ∃ m ∈ modesS, y = .str m := by
      have hy : y ∈ modesS.map D.str := hy
      obtain ⟨m, h1, h2⟩ := List.mem_map.mp hy
      exact ⟨m, h1, h2.symm⟩
    refine ⟨p, x, x + 1 + r, b + 2, rfl, hp2, fun G3 ts b3 hp3 hts => ?_⟩
    refine ⟨p, g, b + 1, rfl, hp3, g1, by omega, fun G4 k b4 hp4 k0 k1 => ⟨by show 2 ≤ sizeLine; decide, p, _, _, b, rfl, .inl rfl, hp4, by decide, by decide, fun G5 y b5 hp5 hy => ?_⟩⟩
    obtain ⟨t, ht, rfl⟩ : ∃ t ∈ tailsS, y = .str t := by
      have hy : y ∈ tailsS.map D.str := hy
      obtain ⟨m, h1, h2⟩ := List.mem_map.mp hy
      exact ⟨m, h1, h2.symm⟩
    exact ⟨by show 7 ≤ sizeLine; decide, q G5 ⟨z, m, x, x + 1 + r, ts, k, t⟩ ((((b1.trans b2).trans b3).trans b4).trans b5) hp5 ⟨hz, ho, hm, ⟨x0, by show x < x + 1 + r; omega, by show x + 1 + r ≤ n; omega⟩, Nat.le_trans hts.few (by decide), hts.all, hts.gaps, ⟨k0, by show k ≤ 100; omega⟩, ht⟩ rfl⟩
  · rintro ds G Q E ⟨p, z, n, g, b, rfl, hp, n1, n2, g1, g2, hz, ho, q⟩
    have next : ∀ G1 m, Beside p G G1 → AtPurse p (b + 13) G1 → 1 ≤ m → m ≤ n → sp_take [.ref p, .int m] G1 (fun d G2 => J_pass1 (endsOf K Q E) [some (.ref p), some (.str z), some (.int n), some (.int g), some d, none, none, none] G2) fun _ _ _ => False := fun G1 m b1 hp1 m1 m2 =>
      ⟨p, m, b + 12, rfl, hp1, m1, by omega, fun G2 r b2 hp2 r0 r1 => ⟨p, z, n, g, b, r, rfl, hp2.mono (by omega), r0, by omega, n2, g1, g2, hz, ho, fun G' u b' hp' hu hn => ret (q G' u ((b1.trans b2).trans b') hp' hu hn)⟩⟩
    refine ⟨p, 3, b + 13, rfl, hp, by decide, by decide, fun G1 r b1 hp1 r0 r1 => ite2 (fun c => ?_) (fun c => ⟨CDivW.of (by decide) (by decide), ?_⟩)⟩
    · obtain ⟨p2, m2, b2, e, k⟩ := next G1 n b1 hp1 n1 (Int.le_refl _)
      exact ⟨p2, m2, b2, e, k⟩
    · obtain ⟨p2, m2, b2, e, k⟩ := next G1 (1 + n / 3) b1 hp1 (by omega) (by omega)
      exact ⟨p2, m2, b2, e, k⟩
end
end TP
end
section
set_option maxRecDepth 100000
set_option maxHeartbeats 1000000
/-! The law's own defs: what a desk tells, promises, steps. -/
namespace TP
open PySem PySem.Spec PyProof.Rows DL
open L2 hiding Room FnOk takes0
/-! ### small signs -/
def smallS (z : Str) : Prop := ∀ c ∈ z.cps.toList, c < 16 ^ 8
theorem small_str (s : String) : smallS (Str.ofString s) := by
  intro c hc
  rw [Str.ofString_eq_toList] at hc
  obtain ⟨x, _, rfl⟩ := List.mem_map.mp hc
  have := x.val.toNat_lt
  show x.val.toNat < _
  exact this
theorem small_append {x y : Str} (hx : smallS x) (hy : smallS y) : smallS (x ++ y) := by
  intro c hc
  have e : (x ++ y).cps.toList = x.cps.toList ++ y.cps.toList := by
    show (x.cps ++ y.cps).toList = _
    simp
  rw [e] at hc
  rcases List.mem_append.mp hc with hc | hc
  · exact hx c hc
  · exact hy c hc
theorem small_join {s : Str} (hs : smallS s) : ∀ {l : List Str}, (∀ z ∈ l, smallS z) → smallS (Str.join s l)
  | [], _ => fun c hc => by simp [Str.join, Str.empty] at hc
  | [x], h => h x List.mem_cons_self
  | x :: y :: l, h => small_append (small_append (h x List.mem_cons_self) hs) (small_join hs fun z hz => h z (List.mem_cons_of_mem _ hz))
theorem small_tjoin {s : Str} {l : List Str} (hs : smallS s) (h : ∀ z ∈ l, smallS z) : smallS (Txt.join s l) := by
  have e : Txt.join s l = Str.join s l := StrLaws.glued_eq_join s l
  rw [e]
  exact small_join hs h
theorem small_name {z : Str} (h : isNameS z = true) : smallS z := fun c hc => Nat.lt_of_lt_of_le (name_signs h c hc) (by decide)
theorem small_modes : ∀ z ∈ modesS, smallS z := by
  intro z hz
  have hz : z = "write" ∨ z = "latch" ∨ z = "touch" ∨ z = "trim" := by simpa [modesS] using hz
  rcases hz with rfl | rfl | rfl | rfl <;> exact small_str _
theorem small_tails : ∀ z ∈ tailsS, smallS z := by
  intro z hz
  have hz : z = "stop" ∨ z = "on" := by simpa [tailsS] using hz
  rcases hz with rfl | rfl <;> exact small_str _
theorem small_row {n : Int} {p : Pass} (h : RightP n p) : smallS (rowS p) := by
  refine small_tjoin (small_str _) fun z hz => ?_
  unfold rowParts at hz
  rcases List.mem_append.mp hz with hz | hz
  · simp only [List.mem_cons, List.not_mem_nil, or_false] at hz
    rcases hz with rfl | rfl | rfl | rfl | rfl | rfl | rfl
    · exact small_str _
    · exact small_name h.name
    · exact small_modes _ h.mode
    · exact small_str _
    · exact small_str _
    · exact small_str _
    · exact small_tails _ h.tail
  · obtain ⟨t, _, rfl⟩ := List.mem_map.mp hz
    exact small_append (small_append (small_str _) (small_str _)) (small_str _)
theorem small_track {n : Int} {ps : List Pass} (h : RightT n ps) : smallS (trackS n ps) := by
  refine small_tjoin (small_str _) fun z hz => ?_
  rcases List.mem_cons.mp hz with rfl | hz
  · exact small_append (small_str _) (small_str _)
  · obtain ⟨p, hp, rfl⟩ := List.mem_map.mp hz
    exact small_row (h.right p hp)
/-! ### what a desk tells -/
def wishPy : Wish → PyData
  | .heard z x y => .tuple [.str "heard", .str z, .int x, .int y]
  | .kept x y => .tuple [.str "kept", .int x, .int y]
  | .flat x y => .tuple [.str "flat", .int x, .int y]
  | .calm l => .tuple [.str "calm", pyPair l]
theorem wish_py (v : Wish) : toPy v.d = some (wishPy v) := by cases v <;> rfl
def seenPy (n : Int) (h : Held) (k : Nat) : PyData := .list [.str (trackS n h.ps), .tuple (h.ws.map wishPy), .int k, .int h.ps.length, .bool true, .tuple ((h.ps.map (·.name)).map PyData.str)]
@[irreducible] def seenS (n : Int) (h : Held) (k : Nat) : Str := (seenPy n h k).shown
theorem int_weight {i : Int} (h : i.natAbs < 2 ^ 60) : PyData.weight (.int i) ≤ 60 := by
  rw [PyData.weight]
  split
  · exact Nat.zero_le _
  · rename_i e
    have e : i.natAbs ≠ 0 := fun z => e (by
      have : i = 0 := by omega
      rw [this]
      rfl)
    have := (Nat.log2_lt e).mpr h
    omega
theorem weight_all {B : Nat} : ∀ {l : List PyData}, (∀ p ∈ l, p.weight + 1 ≤ B) → PyData.weightAll l ≤ B * l.length
  | [], _ => by simp [PyData.weightAll]
  | p :: l, h => by
    have h1 := h p List.mem_cons_self
    have ih := weight_all fun q hq => h q (List.mem_cons_of_mem _ hq)
    rw [PyData.weightAll, List.length_cons, Nat.mul_succ]
    omega
theorem int_short {i : Int} (h : 0 ≤ i ∧ i ≤ 10 ^ 12) : PyData.leavesShort 13 (.int i) = true := by
  rw [PyData.leavesShort]
  refine decide_eq_true ?_
  show (Str.ofString (toString i)).length ≤ 13
  exact tick.len h
theorem str_short {z : Str} (h : smallS z) : PyData.leavesShort 13 (.str z) = true := by
  rw [PyData.leavesShort]
  exact List.all_eq_true.mpr fun c hc => decide_eq_true (h c hc)
theorem all_short : ∀ {l : List PyData}, (∀ p ∈ l, p.leavesShort 13 = true) → PyData.leavesShortAll 13 l = true
  | [], _ => by simp [PyData.leavesShortAll]
  | p :: l, h => by rw [PyData.leavesShortAll, h p List.mem_cons_self, all_short fun q hq => h q (List.mem_cons_of_mem _ hq)]; rfl
theorem all_showable : ∀ {l : List PyData}, (∀ p ∈ l, p.showable = true) → PyData.showableAll l = true
  | [], _ => by simp [PyData.showableAll]
  | p :: l, h => by rw [PyData.showableAll, h p List.mem_cons_self, all_showable fun q hq => h q (List.mem_cons_of_mem _ hq)]; rfl
theorem int_show {i : Int} (h : i.natAbs < 2 ^ 60) : (PyData.int i).showable = true := by
  rw [PyData.showable]
  exact decide_eq_true (log_ok h)
theorem depth_all {B : Nat} : ∀ {l : List PyData}, (∀ p ∈ l, p.depth ≤ B) → PyData.depthAll l ≤ B
  | [], _ => by simp [PyData.depthAll]
  | p :: l, h => by
    have h1 := h p List.mem_cons_self
    have ih := depth_all fun q hq => h q (List.mem_cons_of_mem _ hq)
    rw [PyData.depthAll]
    omega
theorem mem3 {α : Type} {T : α → Prop} {x y z : α} (h1 : T x) (h2 : T y) (h3 : T z) : ∀ p ∈ [x, y, z], T p := by
  intro p hp
  simp only [List.mem_cons, List.not_mem_nil, or_false] at hp
  rcases hp with rfl | rfl | rfl
  · exact h1
  · exact h2
  · exact h3
/-- what a promise that holds for each track is, as data -/
theorem easy_py {n : Int} {v : Wish} (hn : n ≤ 10 ^ 12) (h : easy n v) : (wishPy v).showable = true ∧ (wishPy v).leavesShort 13 = true ∧ (wishPy v).depth ≤ 3 ∧ (wishPy v).weight + 1 ≤ 200 ∧ (wishPy v).canLay0 = true := by
  cases v with
  | heard => exact h.elim
  | kept => exact h.elim
  | flat x y =>
    obtain ⟨h1, h2, h3⟩ := h
    have sx : x.natAbs < 2 ^ 60 := by omega
    have sy : y.natAbs < 2 ^ 60 := by omega
    refine ⟨?_, ?_, ?_, ?_, ?_⟩
    · show PyData.showableAll [.str "flat", .int x, .int y] = true
      exact all_showable (mem3 (T := fun p : PyData => p.showable = true) (by simp [PyData.showable]) (int_show sx) (int_show sy))
    · show PyData.leavesShortAll 13 [.str "flat", .int x, .int y] = true
      exact all_short (mem3 (T := fun p : PyData => p.leavesShort 13 = true) (str_short (small_str _)) (int_short ⟨h2, by omega⟩) (int_short ⟨by omega, by omega⟩))
    · show PyData.depthAll [.str "flat", .int x, .int y] + 1 ≤ 3
      have := depth_all (B := 0) (l := [.str "flat", .int x, .int y]) (mem3 (T := fun p : PyData => p.depth ≤ 0) (by simp [PyData.depth]) (by simp [PyData.depth]) (by simp [PyData.depth]))
      omega
    · show PyData.weightAll [.str "flat", .int x, .int y] + 1 ≤ 200
      have w1 := int_weight sx
      have w2 := int_weight sy
      have w3 : PyData.weight (.str "flat") = 4 := by decide +kernel
      simp only [PyData.weightAll, w3]
      omega
    · show PyData.canLayAll0 [.str "flat", .int x, .int y] = true
      have e : PyData.canLay0 (.str "flat") = true := by decide +kernel
      simp [PyData.canLayAll0, PyData.canLay0] at e ⊢
      exact e
  | calm l =>
    have h : l = one := h
    subst h
    refine ⟨?_, ?_, ?_, ?_, ?_⟩ <;> decide +kernel
theorem seen_ok {n : Int} {h : Held} {k : Nat} (hd : DeskOk n h) (hw : h.ws.length ≤ 1000) (hk : k < 10000) : (seenPy n h k).showable = true ∧ (seenPy n h k).depth ≤ 60 ∧ (seenPy n h k).shown.length ≤ sizeLine := by
  have rt := hd.track.rt
  have few := rt.few
  have hwm : ∀ p ∈ h.ws.map wishPy, p.showable = true ∧ p.leavesShort 13 = true ∧ p.depth ≤ 3 ∧ p.weight + 1 ≤ 200 ∧ p.canLay0 = true := fun p hp => by
    obtain ⟨v, hv, rfl⟩ := List.mem_map.mp hp
    exact easy_py rt.hi (hd.easy v hv)
  have hnm : ∀ p ∈ (h.ps.map (·.name)).map PyData.str, p.showable = true ∧ p.leavesShort 13 = true ∧ p.depth ≤ 0 ∧ p.weight + 1 ≤ 9 := fun p hp => by
    obtain ⟨z, hz, rfl⟩ := List.mem_map.mp hp
    obtain ⟨u, hu, rfl⟩ := List.mem_map.mp hz
    have hn := (rt.right u hu).name
    refine ⟨by simp [PyData.showable], str_short (small_name hn), by simp [PyData.depth], ?_⟩
    rw [PyData.weight]
    have := name_len hn
    show u.name.cps.size + 1 ≤ 9
    have e : u.name.length = u.name.cps.size := rfl
    omega
  have tl := track_len (n := n) (ps := h.ps) ⟨by have := rt.lo; omega, rt.hi⟩ few fun p hp => rowOk_of (rt.right p hp) rt.hi
  have mem : ∀ {T : PyData → Prop}, T (.str (trackS n h.ps)) → T (.tuple (h.ws.map wishPy)) → T (.int k) → T (.int h.ps.length) → T (.bool true) → T (.tuple ((h.ps.map (·.name)).map PyData.str)) →
      ∀ p ∈ [PyData.str (trackS n h.ps), .tuple (h.ws.map wishPy), .int k, .int h.ps.length, .bool true, .tuple ((h.ps.map (·.name)).map PyData.str)], T p := by
    intro T t1 t2 t3 t4 t5 t6 p hp
    simp only [List.mem_cons, List.not_mem_nil, or_false] at hp
    rcases hp with rfl | rfl | rfl | rfl | rfl | rfl
    · exact t1
    · exact t2
    · exact t3
    · exact t4
    · exact t5
    · exact t6
  refine ⟨?_, ?_, ?_⟩
  · show PyData.showableAll _ = true
    refine all_showable (mem (T := fun p => p.showable = true) (by simp [PyData.showable]) ?_ (int_show (by omega)) (int_show (by omega)) (by simp [PyData.showable]) ?_)
    · rw [PyData.showable]; exact all_showable fun p hp => (hwm p hp).1
    · rw [PyData.showable]; exact all_showable fun p hp => (hnm p hp).1
  · show PyData.depthAll _ + 1 ≤ 60
    have := depth_all (B := 10) (mem (T := fun p => p.depth ≤ 10) (by simp [PyData.depth]) (by
      rw [PyData.depth]
      have := depth_all (B := 3) fun p hp => (hwm p hp).2.2.1
      omega) (by simp [PyData.depth]) (by simp [PyData.depth]) (by simp [PyData.depth]) (by
      rw [PyData.depth]
      have := depth_all (B := 0) fun p hp => (hnm p hp).2.2.1
      omega))
    omega
  · have hs : (seenPy n h k).leavesShort 13 = true := by
      show PyData.leavesShortAll 13 _ = true
      refine all_short (mem (T := fun p => p.leavesShort 13 = true) (str_short (small_track rt)) ?_ (int_short ⟨by omega, by omega⟩) (int_short ⟨by omega, by omega⟩) (by simp [PyData.leavesShort]) ?_)
      · rw [PyData.leavesShort]; exact all_short fun p hp => (hwm p hp).2.1
      · rw [PyData.leavesShort]; exact all_short fun p hp => (hnm p hp).2.1
    have hwt : (seenPy n h k).weight ≤ 300000 := by
      show PyData.weightAll _ ≤ _
      have w1 : PyData.weight (.tuple (h.ws.map wishPy)) ≤ 200000 := by
        rw [PyData.weight]
        have := weight_all (B := 200) fun p hp => (hwm p hp).2.2.2.1
        rw [List.length_map] at this
        omega
      have w2 : PyData.weight (.tuple ((h.ps.map (·.name)).map PyData.str)) ≤ 72 := by
        rw [PyData.weight]
        have := weight_all (B := 9) fun p hp => (hnm p hp).2.2.2
        rw [List.length_map, List.length_map] at this
        omega
      have w3 : PyData.weight (.int (k : Int)) ≤ 60 := int_weight (by omega)
      have w4 : PyData.weight (.int (h.ps.length : Int)) ≤ 60 := int_weight (by omega)
      have w5 : PyData.weight (.str (trackS n h.ps)) ≤ 4000 := by rw [PyData.weight]; exact tl
      have w6 : PyData.weight (.bool true) = 0 := by rw [PyData.weight]
      simp only [PyData.weightAll, w6]
      omega
    have := PyData.shown_le 13 (by decide) _ hs
    refine Nat.le_trans this ?_
    exact Nat.le_trans (by omega : _ ≤ 5000000) (by decide)
theorem strs_py : ∀ l : List Str, toPys (l.map D.str) = some (l.map PyData.str) := fun l => toPys_map _ _ fun _ _ => rfl
theorem wishes_py : ∀ l : List Wish, toPys (l.map Wish.d) = some (l.map wishPy) := fun l => toPys_map _ _ fun v _ => wish_py v
section
variable {P : Program} {w : World} {K : PySem.W.Frag} {mg : Str → Option Value} {base : Heap} {a : Ad} {f pt : Addr} {fd : FuncData}
def sp_seen : SpD := fun ds G Q _ => ∃ d n h past, ds = [.ref d] ∧ G d = some (deskO a n h past) ∧ DeskOk n h ∧ h.ws.length ≤ 1000 ∧ past.length < 10000 ∧ Q (.str (seenS n h past.length)) G
theorem ok_seen (T : Txt K w mg a) (k_Track___str__ : KnowsS P w K mg base a.Track "__str__" 2 (sp_Track_str (a := a))) (k_Desk_track : KnowsP P w K mg base a.Desk "track" 1 (sp_Desk_track (a := a))) (k_Desk_promises : KnowsP P w K mg base a.Desk "promises" 1 (sp_Desk_promises (a := a)))
    (k_Desk_changes : KnowsP P w K mg base a.Desk "changes" 1 (sp_Desk_changes (a := a))) (k_Desk___len__ : KnowsS P w K mg base a.Desk "__len__" 3 (sp_Desk_len (a := a))) (k_Desk___bool__ : KnowsS P w K mg base a.Desk "__bool__" 1 sp_Desk_bool) (k_Track_names : KnowsP P w K mg base a.Track "names" 1 (sp_Track_names (a := a)))
    (Fu : FunD K "_law_seen" "_law_seen" (defArgs s_law_seen) (defBody s_law_seen) (defScope s_law_seen) [] [] f fd) : FnD P w K mg base 7 f fd ["desk"] (sp_seen (a := a)) := by
  refine fun_ok Fu sc_law_seen ?_ (fun cdv A outer s H E hr => (dss_one (ds_ret (de_callB (repr_okD hr.gu hr.units) T.repr (by decide +kernel) (da_cons (de_lst (da_cons (de_callTy (call_ownStr k_Track___str__ (hr.mono (by decide))) T.str_ (by decide +kernel) (da_cons (de_prop T.clDesk k_Desk_track (hr.mono (by decide)) (dv 0)) da_nil)) (da_cons (de_prop T.clDesk k_Desk_promises (hr.mono (by decide)) (dv 0)) (da_cons (de_prop T.clDesk k_Desk_changes (hr.mono (by decide)) (dv 0)) (da_cons (de_callB (call_ownLen k_Desk___len__ (hr.mono (by decide))) T.len (by decide +kernel) (da_cons (dv 0) da_nil)) (da_cons (de_callTy (call_ownBool k_Desk___bool__ (hr.mono (by decide))) T.bool_ (by decide +kernel) (da_cons (dv 0) da_nil)) (da_cons (de_prop T.clTrack k_Track_names (hr.mono (by decide)) (de_prop T.clDesk k_Desk_track (hr.mono (by decide)) (dv 0))) da_nil))))))) da_nil))))) ?_
  · rintro ds G Q E ⟨d, n, h, past, rfl, _⟩; rfl
  · rintro ds G Q E ⟨d, n, h, past, rfl, hd, hok, hw, hk, q⟩
    have rt := hok.track.rt
    have few := rt.few
    obtain ⟨s1, s2, s3⟩ := seen_ok hok hw hk
    have ins := desk_ins hd
    unfold seenS at q
    refine ⟨_, ins, d, n, h, past, rfl, hd, _, rfl, n, h.ps, rfl, ⟨by have := rt.lo; omega, rt.hi⟩, few, fun p hp => rowOk_of (rt.right p hp) rt.hi, _, rfl, _, ins, d, n, h, past, rfl, hd, _, ins, d, n, h, past, rfl, hd, _, ins, d, n, h, past, rfl, hd, _, rfl, by omega, by omega, _, ins, .ref d, rfl, true, rfl, _, ins, d, n, h, past, rfl, hd, _, rfl, n, h.ps, rfl, Nat.le_trans few (by decide), by show 6 ≤ sizeLine; decide, _, seenPy n h past.length, rfl, ?_, s1, s2, s3, ret q⟩
    show (toPys _).map PyData.list = _
    simp only [toPys, toPy, wishes_py, strs_py, Option.map_some]
    rfl
/-! ### promises -/
def sp_promise : SpD := fun ds G Q _ => ∃ p n b, ds = [.ref p, .int n] ∧ AtPurse p (b + 1) G ∧ 1 ≤ n ∧ ∀ G', ∀ v : Wish, Beside p G G' → AtPurse p b G' → easy n v → Q v.d G'
theorem ok_promise (T : Txt K w mg a) (k_law_one : Knows P w K mg base "_law_one" 3 [] sp_one) (Fu : FunD K "_law_promise" "_law_promise" (defArgs s_law_promise) (defBody s_law_promise) (defScope s_law_promise) [] [] f fd) : FnD P w K mg base 5 f fd ["purse", "length"] sp_promise := by
  refine fun_ok Fu sc_law_promise ?_ (fun cdv A outer s H E hr => (dss_one (ds_ret (de_call k_law_one (hr.mono (by decide)) tk0 (da_cons (dv 0) (da_cons (de_lst (da_cons (de_tup (da_cons de_str (da_cons de_int (da_cons de_int da_nil)))) (da_cons (de_tup (da_cons de_str (da_cons (de_tup (da_cons de_int (da_cons de_int da_nil))) da_nil))) (da_cons (de_tup (da_cons de_str (da_cons (de_sub (dv 1) de_int) (da_cons (dv 1) da_nil)))) da_nil)))) da_nil)))))) ?_
  · rintro ds G Q E ⟨p, n, b, rfl, _⟩; rfl
  · rintro ds G Q E ⟨p, n, b, rfl, hp, hn, q⟩
    refine ⟨by show 3 ≤ sizeLine; decide, by show 2 ≤ sizeLine; decide, by show 2 ≤ sizeLine; decide, by show 3 ≤ sizeLine; decide, by show 3 ≤ sizeLine; decide, p, _, _, b, rfl, .inl rfl, hp, by show 1 ≤ 3; decide, by show 3 < 2 ^ 60; decide, fun G' x b' hp' hx => ret ?_⟩
    simp only [List.mem_cons, List.not_mem_nil, or_false] at hx
    rcases hx with rfl | rfl | rfl
    · exact q G' (.flat 0 1) b' hp' ⟨rfl, Int.le_refl _, by omega⟩
    · exact q G' (.calm one) b' hp' rfl
    · exact q G' (.flat (n - 1) n) b' hp' ⟨by omega, by omega, by omega⟩
end
end TP
end
section
set_option maxRecDepth 100000
set_option maxHeartbeats 1000000
/-! The law's own defs: a step. -/
namespace TP
open PySem PySem.Spec PyProof.Rows DL
open L2 hiding Room FnOk takes0
/-! ### passes that are changed -/
theorem prs_inj : ∀ {xs ys : List (Int × Int)}, xs.map pr = ys.map pr → xs = ys
  | [], [], _ => rfl
  | [], _ :: _, h => by cases h
  | _ :: _, [], h => by cases h
  | x :: xs, y :: ys, h => by
    rw [List.map_cons, List.map_cons] at h
    injection h with h1 h2
    rw [prs_inj h2]
    cases x; cases y; cases h1; rfl
theorem d_inj {p q : Pass} (h : p.d = q.d) : p = q := by
  cases p; cases q
  simp only [Pass.d, D.tup.injEq, List.cons.injEq, D.str.injEq, D.int.injEq, and_true] at h
  obtain ⟨e1, e2, e3, e4, e5, e6, e7⟩ := h
  rw [e1, e2, e3, e4, prs_inj e5, e6, e7]
theorem names_set {ps : List Pass} {i : Nat} {u v : Pass} (h : ps[i]? = some u) (e : v.name = u.name) : (ps.set i v).map (·.name) = ps.map (·.name) := by
  rw [List.map_set, e]
  apply List.ext_getElem?
  intro j
  by_cases hj : i = j
  · subst hj
    obtain ⟨hi, he⟩ := List.getElem?_eq_some_iff.mp h
    rw [List.getElem?_set_self (by simpa using hi), List.getElem?_map, h]
    rfl
  · rw [List.getElem?_set_ne hj]
theorem TrackOk.set {n : Int} {ps : List Pass} {i : Nat} {u v : Pass} (h : TrackOk n ps) (hi : ps[i]? = some u) (e : v.name = u.name) (hv : RightP n v) : TrackOk n (ps.set i v) := by
  refine ⟨h.lo, h.hi, by rw [List.length_set]; exact h.few, fun q hq => ?_, fun q hq => ?_, ?_⟩
  · rcases List.mem_or_eq_of_mem_set hq with hq | rfl
    · exact h.ask q hq
    · exact ask_of hv
  · rcases List.mem_or_eq_of_mem_set hq with hq | rfl
    · exact h.right q hq
    · exact right_mk hv
  · rw [names_set hi e]
    exact h.nd
theorem chg_row {ps : List Pass} {z part : Str} {x : D} {u v : Pass} (hi : ps[(ps.map (·.name)).idxOf z]? = some u) (hr : (rowD u).set (partNo part) x = rowD v) : chgRow (ps.map (·.name)) (ps.map rowD) ⟨z, part, x⟩ = (ps.set ((ps.map (·.name)).idxOf z) v).map rowD := by
  unfold chgRow
  have e : (ps.map rowD).getD ((ps.map (·.name)).idxOf z) [] = rowD u := by
    rw [List.getD_eq_getElem?_getD, List.getElem?_map, hi]
    rfl
  show (ps.map rowD).set ((ps.map (·.name)).idxOf z) (((ps.map rowD).getD ((ps.map (·.name)).idxOf z) []).set (partNo part) x) = _
  rw [e, hr, List.map_set]
theorem named {ps : List Pass} {z : Str} (h : z ∈ ps.map (·.name)) : ∃ u, ps[(ps.map (·.name)).idxOf z]? = some u ∧ u.name = z ∧ u ∈ ps := by
  obtain ⟨i1, _⟩ := idx_at h
  rw [List.getElem?_map] at i1
  cases e : ps[(ps.map (·.name)).idxOf z]? with
  | none => rw [e] at i1; cases i1
  | some u =>
    rw [e] at i1
    exact ⟨u, rfl, Option.some.inj i1, List.mem_of_getElem? e⟩
def Beside2 (p d : Addr) (G G' : GD) : Prop := ∀ q, q ≠ p → q ≠ d → G' q = G q
theorem Beside.two {p d : Addr} {G G1 : GD} {o : HOD} (b : Beside p G G1) : Beside2 p d G (DL.put G1 d o) := fun q h1 h2 => by rw [put_ne h2]; exact b q h1
/-- a desk's state in the law -/
structure Good (n : Int) (zs : List Str) (h : Held) : Prop where
  ok : DeskOk n h
  names : ∀ p ∈ h.ps, p.name ∈ zs
theorem Good.few {n : Int} {zs : List Str} {h : Held} (g : Good n zs h) : h.ps.length ≤ zs.length := by
  have := nodup_len g.ok.track.nd (ys := zs) fun x hx => by
    obtain ⟨p, hp, rfl⟩ := List.mem_map.mp hx
    exact g.names p hp
  simpa using this
theorem AtDesk.move {a : Ad} {pt d p : Addr} {n : Int} {h : Held} {past : List Held} {G G1 : GD} {b : Nat} (A : AtDesk a pt d n h past G) (hp : AtPurse p b G) (bs : Beside p G G1) : AtDesk a pt d n h past G1 := by
  obtain ⟨x, y, z, e, _⟩ := hp
  refine ⟨?_, A.ok, ?_, A.few⟩
  · rw [bs d (fun q => by rw [← q, A.at_] at e; cases e)]; exact A.at_
  · rw [bs pt (fun q => by rw [← q, A.tab] at e; cases e)]; exact A.tab
theorem desk_ne {a : Ad} {d p : Addr} {n : Int} {h : Held} {past : List Held} {G : GD} {b : Nat} (hd : G d = some (deskO a n h past)) (hp : AtPurse p b G) : p ≠ d := fun q => by
  obtain ⟨x, y, z, e, _⟩ := hp
  rw [q, hd] at e
  cases e
theorem strs_shaped {l : List Str} (h : ∀ z ∈ l, nameOk z) : SeqAt.shaped (.tuple (l.map PyData.str)) = true ∧ SeqAt.shaped (.list (l.map PyData.str)) = true := by
  obtain ⟨h1, h2⟩ := lay_all (l := l.map PyData.str) fun p hp => by
    obtain ⟨z, hz, rfl⟩ := List.mem_map.mp hp
    exact ⟨h z hz, by simp [PyData.depth]⟩
  refine ⟨?_, ?_⟩
  · unfold SeqAt.shaped
    have e1 : PyData.canLay0 (.tuple (l.map PyData.str)) = true := by rw [PyData.canLay0]; exact h1
    have e2 : PyData.depth (.tuple (l.map PyData.str)) ≤ 64 := by rw [PyData.depth]; omega
    rw [e1, decide_eq_true e2]
    rfl
  · unfold SeqAt.shaped
    have e1 : PyData.canLay0 (.list (l.map PyData.str)) = true := by rw [PyData.canLay0]; exact h1
    have e2 : PyData.depth (.list (l.map PyData.str)) ≤ 64 := by rw [PyData.depth]; omega
    rw [e1, decide_eq_true e2]
    rfl
theorem wishes_shaped {n : Int} {l : List Wish} (hn : n ≤ 10 ^ 12) (h : ∀ v ∈ l, easy n v) : SeqAt.shaped (.tuple (l.map wishPy)) = true := by
  obtain ⟨h1, h2⟩ := lay_all (l := l.map wishPy) fun p hp => by
    obtain ⟨v, hv, rfl⟩ := List.mem_map.mp hp
    obtain ⟨_, _, h3, _, h5⟩ := easy_py hn (h v hv)
    exact ⟨h5, h3⟩
  unfold SeqAt.shaped
  have e1 : PyData.canLay0 (.tuple (l.map wishPy)) = true := by rw [PyData.canLay0]; exact h1
  have e2 : PyData.depth (.tuple (l.map wishPy)) ≤ 64 := by rw [PyData.depth]; omega
  rw [e1, decide_eq_true e2]
  rfl
theorem eqv_tup_nil (l : List PyData) : PyData.eqv (.tuple l) (.tuple []) = l.isEmpty := by
  cases l <;> simp [PyData.eqv, PyData.eqvAll]
theorem eqv_lst_nil (l : List PyData) : PyData.eqv (.list l) (.list []) = l.isEmpty := by
  cases l <;> simp [PyData.eqv, PyData.eqvAll]
section
variable {P : Program} {w : World} {K : PySem.W.Frag} {mg : Str → Option Value} {base : Heap} {a : Ad} {f pt : Addr} {fd : FuncData}
/-- ahead of the other ways -/
def J_step1 (pt : Addr) : TDS := fun Dn s G => ∃ p d zs n h past b way free spot, s = [some (.ref p), some (.ref d), some (.lst (zs.map D.str)), some (.int n), some (.int way), some (.tup ((h.ps.map (·.name)).map D.str)), free, some (.int spot), none] ∧
  AtPurse p (b + 20) G ∧ AtDesk a pt d n h past G ∧ Good n zs h ∧ 1 ≤ h.ps.length ∧ 0 ≤ spot ∧ spot ≤ h.ps.length ∧ h.ws.length < 1000 ∧
  ∀ G1 h', Beside p G G1 → AtPurse p b G1 → Good n zs h' → h'.ws.length ≤ h.ws.length + 1 → Dn.nx s (put G1 d (deskO a n h' (past ++ [h])))
def sp_step (pt : Addr) : SpD := fun ds G Q _ => ∃ p d zs n h past b, ds = [.ref p, .ref d, .lst (zs.map D.str), .int n] ∧ AtPurse p (b + 40) G ∧ AtDesk a pt d n h past G ∧ Good n zs h ∧ (∀ z ∈ zs, GoodName z) ∧ 1 ≤ zs.length ∧ zs.length ≤ 4 ∧ h.ws.length < 1000 ∧
  ∀ G' h', Beside2 p d G G' → AtPurse p b G' → G' d = some (deskO a n h' (past ++ [h])) → Good n zs h' → h'.ws.length ≤ h.ws.length + 1 → Q .non G'
theorem ok_step (T : Txt K w mg a) (k_law_take : Knows P w K mg base "_law_take" 1 [] sp_take) (k_law_one : Knows P w K mg base "_law_one" 3 [] sp_one) (k_law_pass : Knows P w K mg base "_law_pass" 5 [] sp_pass) (k_law_promise : Knows P w K mg base "_law_promise" 5 [] sp_promise)
    (k_Desk_track : KnowsP P w K mg base a.Desk "track" 1 (sp_Desk_track (a := a))) (k_Desk_promises : KnowsP P w K mg base a.Desk "promises" 1 (sp_Desk_promises (a := a))) (k_Track_names : KnowsP P w K mg base a.Track "names" 1 (sp_Track_names (a := a)))
    (k_Desk_put2 : KnowsM P w K mg base a.Desk "put" 21 [] (sp_Desk_put (a := a) pt)) (k_Desk_take : KnowsM P w K mg base a.Desk "take" 21 [] (sp_Desk_take (a := a) pt)) (k_Desk_move : KnowsM P w K mg base a.Desk "move" 21 [] (sp_Desk_move (a := a) pt))
    (k_Desk_change : KnowsM P w K mg base a.Desk "change" 21 [] (sp_Desk_change (a := a) pt)) (k_Desk_lift : KnowsM P w K mg base a.Desk "lift" 21 [] (sp_Desk_lift (a := a) pt)) (k_Desk_promise : KnowsM P w K mg base a.Desk "promise" 21 [] (sp_Desk_promise (a := a) pt))
    (Fu : FunD K "_law_step" "_law_step" (defArgs s_law_step) (defBody s_law_step) (defScope s_law_step) [] [] f fd) : FnD P w K mg base 23 f fd ["purse", "desk", "words", "length"] (sp_step (a := a) pt) := by
  refine fun_ok Fu sc_law_step ?_ (fun cdv A outer s H E hr => (dss_cons (ds_asg (de_tup (da_cons (de_call k_law_take (hr.mono (by decide)) tk0 (da_cons (dv 0) (da_cons de_int da_nil))) (da_cons (de_prop T.clTrack k_Track_names (hr.mono (by decide)) (de_prop T.clDesk k_Desk_track (hr.mono (by decide)) (dv 1))) da_nil))) (dg_tup (n := 2) rfl (dgs_cons (dg_name (i := 4) sc_law_step.nd rfl (Or.inl rfl)) (dgs_cons (dg_name (i := 5) sc_law_step.nd rfl (Or.inr rfl)) dgs_nil))))
      (dss_cons (ds_par (i := 6) (j := 7) rfl sc_law_step.nd rfl rfl (by decide) rfl rfl (da_cons (de_lc rfl sc_law_step.nd (BlkD.mk (own := [("word", 8)]) (di_seq (dv 2)) (blkOk_by (N := N_law_step) (sc := defScope s_law_step) (own := [("word", 8)]) (by decide +kernel)) (fun _ _ _ _ _ => (dgw_name (i := 8) sc_law_step.nd rfl (Or.inl rfl) (by decide))) (fun _ _ _ _ _ => (dts_one (dt_cmp notIn_ok (dv 8) (dv 5) (by rfl)))) (fun _ _ _ _ _ => (dv 8)))) (da_cons (de_call k_law_take (hr.mono (by decide)) tk0 (da_cons (dv 0) (da_cons (de_add (de_callB len_okD T.len (by decide +kernel) (da_cons (dv 5) da_nil)) de_int) da_nil))) da_nil)) (by rfl))
      (dss_one (ds_if (dt_w (dw_or (dt_cmp (eq_ok hr.units) (dv 5) (de_tup da_nil) (nomark _)) (dw_or1 (dt_w (dw_and (dt_cmp lt_ok (dv 4) de_int (nomark _)) (dw_and1 (dt_cmp (ne_ok hr.units) (dv 6) (de_lst da_nil) (nomark _)))))))) (dss_one (ds_expr (de_meth T.clDesk k_Desk_put2 (hr.mono (by decide)) tk0 (dv 1) (da_cons (de_call k_law_pass (hr.mono (by decide)) tk0 (da_cons (dv 0) (da_cons (de_ix (dv 6) de_int) (da_cons (dv 3) (da_cons de_int da_nil))))) (da_cons (de_call k_law_one (hr.mono (by decide)) tk0 (da_cons (dv 0) (da_cons (de_lst (da_cons de_non (da_cons (dv 7) da_nil))) da_nil))) da_nil))))) (dss_to (J_step1 (a := a) pt) (dss_one (ds_if (dt_cmp (eq_ok hr.units) (dv 4) de_int (nomark _)) (dss_one (ds_expr (de_meth T.clDesk k_Desk_take (hr.mono (by decide)) tk0 (dv 1) (da_cons (de_call k_law_one (hr.mono (by decide)) tk0 (da_cons (dv 0) (da_cons (dv 5) da_nil))) da_nil)))) (dss_one (ds_if (dt_cmp (eq_ok hr.units) (dv 4) de_int (nomark _)) (dss_one (ds_expr (de_meth T.clDesk k_Desk_move (hr.mono (by decide)) tk0 (dv 1) (da_cons (de_call k_law_one (hr.mono (by decide)) tk0 (da_cons (dv 0) (da_cons (dv 5) da_nil))) (da_cons (de_callB (min_okD rfl) T.min (by decide +kernel) (da_cons (dv 7) (da_cons (de_sub (de_callB len_okD T.len (by decide +kernel) (da_cons (dv 5) da_nil)) de_int) da_nil))) da_nil))))) (dss_one (ds_if (dt_cmp (eq_ok hr.units) (dv 4) de_int (nomark _)) (dss_one (ds_expr (de_meth T.clDesk k_Desk_change (hr.mono (by decide)) tk0 (dv 1) (da_cons (de_tup (da_cons (de_call k_law_one (hr.mono (by decide)) tk0 (da_cons (dv 0) (da_cons (dv 5) da_nil))) (da_cons de_str (da_cons (de_call k_law_one (hr.mono (by decide)) tk0 (da_cons (dv 0) (da_cons (de_lst (da_cons de_str (da_cons de_str da_nil))) da_nil))) da_nil)))) da_nil)))) (dss_one (ds_if (dt_cmp (eq_ok hr.units) (dv 4) de_int (nomark _)) (dss_one (ds_expr (de_meth T.clDesk k_Desk_change (hr.mono (by decide)) tk0 (dv 1) (da_cons (de_tup (da_cons (de_call k_law_one (hr.mono (by decide)) tk0 (da_cons (dv 0) (da_cons (dv 5) da_nil))) (da_cons de_str (da_cons (de_call k_law_take (hr.mono (by decide)) tk0 (da_cons (dv 0) (da_cons de_int da_nil))) da_nil)))) da_nil)))) (dss_one (ds_if (dt_w (dw_and (dt_cmp (eq_ok hr.units) (dv 4) de_int (nomark _)) (dw_and1 (dt_cmp (ne_ok hr.units) (de_prop T.clDesk k_Desk_promises (hr.mono (by decide)) (dv 1)) (de_tup da_nil) (nomark _))))) (dss_one (ds_expr (de_meth T.clDesk k_Desk_lift (hr.mono (by decide)) tk0 (dv 1) (da_cons (de_call k_law_take (hr.mono (by decide)) tk0 (da_cons (dv 0) (da_cons (de_callB len_okD T.len (by decide +kernel) (da_cons (de_prop T.clDesk k_Desk_promises (hr.mono (by decide)) (dv 1)) da_nil)) da_nil))) da_nil)))) (dss_one (ds_expr (de_meth T.clDesk k_Desk_promise (hr.mono (by decide)) tk0 (dv 1) (da_cons (de_call k_law_promise (hr.mono (by decide)) tk0 (da_cons (dv 0) (da_cons (dv 3) da_nil))) da_nil)))))))))))))) ?_)))))) ?_
  · rintro ds G Q E ⟨p, d, zs, n, h, past, b, rfl, _⟩; rfl
  · rintro Dn s G ⟨p, d, zs, n, h, past, b, way, free, spot, rfl, hp, A, hg, nlen, s0, s1, hw, q⟩
    have rt := A.ok.track.rt
    have few := rt.few
    have hn12 := rt.hi
    have hn1 := rt.lo
    have isin : ∀ {G3 : GD}, AtDesk a pt d n h past G3 → insOf (.ref d) G3 = some (a.Desk, [(("held" : Str), heldD a n h), (("past" : Str), .tup (past.map (heldD a n)))]) := fun A3 => desk_ins A3.at_
    have one_name : ∀ {x : D}, x ∈ (h.ps.map (·.name)).map D.str → ∃ z, x = .str z ∧ z ∈ h.ps.map (·.name) := fun {x} hx => by
      obtain ⟨z, h1, h2⟩ := List.mem_map.mp hx
      exact ⟨z, h2.symm, h1⟩
    have ln : ((h.ps.map (·.name)).map D.str).length = h.ps.length := by rw [List.length_map, List.length_map]
    have l1 : 1 ≤ ((h.ps.map (·.name)).map D.str).length := by rw [ln]; exact nlen
    have l2 : ((h.ps.map (·.name)).map D.str).length < 2 ^ 60 := by rw [ln]; omega
    have has : ∀ {z : Str} {X : Prop}, z ∈ h.ps.map (·.name) → hasName (.str z) h.ps = false → X := fun hz e => by
      have e2 : decide (_ ∈ h.ps.map (·.name)) = false := e
      rw [decide_eq_true hz] at e2
      cases e2
    refine ite2 (fun c => ?_) (fun c => ite2 (fun c => ?_) (fun c => ite2 (fun c => ?_) (fun c => ite2 (fun c => ?_) (fun c => ?_))))
    · -- a pass is taken
      refine ⟨_, isin A, rfl, p, _, _, b, rfl, .inr rfl, hp.mono (by omega), l1, l2, fun G3 x b3 hp3 hx => ?_⟩
      obtain ⟨z, rfl, hz⟩ := one_name hx
      refine ⟨d, n, h, past, .str z, rfl, A.move hp b3, rfl, fun e => has hz e, fun z2 hz2 hm2 => ?_⟩
      cases hz2
      refine q G3 _ b3 hp3 ⟨⟨A.ok.track.sub (without_sub _ _), A.ok.easy⟩, fun v hv => hg.names v ((without_sub _ _).subset hv)⟩ (by show h.ws.length ≤ _; omega)
    · -- a pass is moved
      refine ⟨_, isin A, rfl, p, _, _, b, rfl, .inr rfl, hp.mono (by omega), l1, l2, fun G3 x b3 hp3 hx => ?_⟩
      obtain ⟨z, rfl, hz⟩ := one_name hx
      refine ⟨_, rfl, d, n, h, past, .str z, .int (if ((((h.ps.map (·.name)).map D.str).length : Nat) : Int) - 1 < spot then ((((h.ps.map (·.name)).map D.str).length : Nat) : Int) - 1 else spot), rfl, A.move hp b3, rfl, rfl, fun e => has hz e, fun z2 hz2 hm2 => ?_⟩
      cases hz2
      rw [ln]
      refine ⟨(if (h.ps.length : Int) - 1 < spot then (h.ps.length : Int) - 1 else spot).toNat, ?_, ?_, ?_⟩
      · congr 1
        split <;> omega
      · split <;> omega
      · refine q G3 _ b3 hp3 ⟨⟨A.ok.track.perm (move_perm _ _ _), A.ok.easy⟩, fun v hv => hg.names v ((move_perm _ _ _).subset hv)⟩ (by show h.ws.length ≤ _; omega)
    · -- a tail
      refine ⟨_, isin A, rfl, p, _, _, b + 1, rfl, .inr rfl, hp.mono (by omega), l1, l2, fun G3 x b3 hp3 hx => ⟨by show 2 ≤ sizeLine; decide, p, _, _, b, rfl, .inl rfl, hp3, by show 1 ≤ 2; decide, by show 2 < 2 ^ 60; decide, fun G4 y b4 hp4 hy => ⟨by show 3 ≤ sizeLine; decide, ?_⟩⟩⟩
      obtain ⟨z, rfl, hz⟩ := one_name hx
      obtain ⟨t, ht, rfl⟩ : ∃ t ∈ tailsS, y = .str t := by
        have hy : y ∈ tailsS.map D.str := hy
        obtain ⟨m, h1, h2⟩ := List.mem_map.mp hy
        exact ⟨m, h1, h2.symm⟩
      obtain ⟨u, hu, hun, hum⟩ := named hz
      have ru := rt.right u hum
      have rv : RightP n { u with tail := t } := ⟨ru.name, ru.old, ru.mode, ru.ends, ru.few, ru.touches, ru.gaps, ru.glide, ht⟩
      have ic : isChangeD (.tup [.str z, .str "tail", .str t]) h.ps = true := by
        show (decide (z ∈ h.ps.map (·.name)) && isWordD (.str "tail") partsS) = true
        rw [decide_eq_true hz, show isWordD (.str "tail") partsS = true by decide +kernel]
        rfl
      refine ⟨d, n, h, past, .tup [.str z, .str "tail", .str t], rfl, A.move hp (b3.trans b4), ⟨rfl, rfl, rfl⟩, fun e => (by rw [ic] at e; cases e), fun _ => ⟨⟨z, "tail", .str t⟩, h.ps.set ((h.ps.map (·.name)).idxOf z) { u with tail := t }, rfl, chg_row hu rfl, A.ok.track.set (u := u) hu rfl rv, ?_⟩⟩
      refine q G4 _ (b3.trans b4) hp4 ⟨⟨A.ok.track.set (u := u) hu rfl rv, A.ok.easy⟩, fun v hv => ?_⟩ (by show h.ws.length ≤ _; omega)
      rcases List.mem_or_eq_of_mem_set hv with hv | rfl
      · exact hg.names v hv
      · exact hg.names u hum
    · -- a glide
      refine ⟨_, isin A, rfl, p, _, _, b + 1, rfl, .inr rfl, hp.mono (by omega), l1, l2, fun G3 x b3 hp3 hx => ⟨p, 101, b, rfl, hp3, by decide, by decide, fun G4 g b4 hp4 g0 g1 => ⟨by show 3 ≤ sizeLine; decide, ?_⟩⟩⟩
      obtain ⟨z, rfl, hz⟩ := one_name hx
      obtain ⟨u, hu, hun, hum⟩ := named hz
      have ru := rt.right u hum
      have rv : RightP n { u with glide := g } := ⟨ru.name, ru.old, ru.mode, ru.ends, ru.few, ru.touches, ru.gaps, ⟨g0, by show g ≤ 100; omega⟩, ru.tail⟩
      have ic : isChangeD (.tup [.str z, .str "glide", .int g]) h.ps = true := by
        show (decide (z ∈ h.ps.map (·.name)) && isWordD (.str "glide") partsS) = true
        rw [decide_eq_true hz, show isWordD (.str "glide") partsS = true by decide +kernel]
        rfl
      refine ⟨d, n, h, past, .tup [.str z, .str "glide", .int g], rfl, A.move hp (b3.trans b4), ⟨rfl, rfl, rfl⟩, fun e => (by rw [ic] at e; cases e), fun _ => ⟨⟨z, "glide", .int g⟩, h.ps.set ((h.ps.map (·.name)).idxOf z) { u with glide := g }, rfl, chg_row hu rfl, A.ok.track.set (u := u) hu rfl rv, ?_⟩⟩
      refine q G4 _ (b3.trans b4) hp4 ⟨⟨A.ok.track.set (u := u) hu rfl rv, A.ok.easy⟩, fun v hv => ?_⟩ (by show h.ws.length ≤ _; omega)
      rcases List.mem_or_eq_of_mem_set hv with hv | rfl
      · exact hg.names v hv
      · exact hg.names u hum
    · -- promises
      have made : ∀ G3 v, Beside p G G3 → AtPurse p b G3 → easy n v → Dn.nx [some (.ref p), some (.ref d), some (.lst (zs.map D.str)), some (.int n), some (.int way), some (.tup ((h.ps.map (·.name)).map D.str)), free, some (.int spot), none] (put G3 d (deskO a n ⟨h.ps, h.ws ++ [v]⟩ (past ++ [h]))) := fun G3 v b3 hp3 hv =>
        q G3 ⟨h.ps, h.ws ++ [v]⟩ b3 hp3 ⟨⟨A.ok.track, fun u hu => by
          rcases List.mem_append.mp hu with hu | hu
          · exact A.ok.easy u hu
          · obtain rfl := List.mem_singleton.mp hu
            exact hv⟩, hg.names⟩ (by show (h.ws ++ [v]).length ≤ _; rw [List.length_append]; exact Nat.le_refl _)
      have prom : ∀ {X : Prop} G3 v, Beside p G G3 → easy n v → (∀ z x y, v = .heard z x y → z.length ≤ sizeLine ∧ hasName (.str z) h.ps = false) := fun G3 v b3 hv z x y e => by
        subst e
        exact hv.elim
      have sW := wishes_shaped hn12 A.ok.easy
      refine ite2 (fun c => ⟨_, isin A, d, n, h, past, rfl, A.at_, by show 0 ≤ sizeLine; decide, .tuple (h.ws.map wishPy), .tuple [], by show (toPys _).map PyData.tuple = _; rw [wishes_py]; rfl, rfl, sW, rfl, ?_⟩) (fun c => ?_)
      · rw [eqv_tup_nil]
        refine ite2 (fun c2 => ?_) (fun c2 => ?_)
        · have wl : 1 ≤ h.ws.length := by
            cases e : h.ws with
            | nil => rw [e] at c2; exact absurd c2 Bool.false_ne_true
            | cons v r => simp
          refine ⟨_, isin A, rfl, _, isin A, d, n, h, past, rfl, A.at_, _, rfl, p, _, b, rfl, hp.mono (by omega), by rw [List.length_map]; omega, by rw [List.length_map]; omega, fun G3 r b3 hp3 r0 r1 => ?_⟩
          rw [List.length_map] at r1
          obtain ⟨j, rfl⟩ := Int.eq_ofNat_of_zero_le r0
          have hj : j < h.ws.length := by omega
          refine ⟨d, n, h, past, .int j, rfl, A.move hp b3, rfl, by omega, fun e => ?_, fun i hi hil => ?_⟩
          · have e : decide ((0 : Int) ≤ j ∧ (j : Int) ≤ (h.ws.length : Int) - 1) = false := e
            simp at e
            omega
          · have sub := List.eraseIdx_sublist h.ws i
            refine q G3 ⟨h.ps, h.ws.eraseIdx i⟩ b3 hp3 ⟨⟨A.ok.track, fun u hu => A.ok.easy u (sub.subset hu)⟩, hg.names⟩ (Nat.le_trans sub.length_le (Nat.le_succ _))
        · refine ⟨_, isin A, rfl, p, n, b, rfl, hp.mono (by omega), hn1, fun G3 v b3 hp3 hv => ⟨d, n, h, past, v, rfl, A.move hp b3, prom (X := True) G3 v b3 hv, by omega, fun e => (by rw [hv.wish] at e; cases e), fun _ => .inl ⟨hv, made G3 v b3 hp3 hv⟩⟩⟩
      · refine ⟨_, isin A, rfl, p, n, b, rfl, hp.mono (by omega), hn1, fun G3 v b3 hp3 hv => ⟨d, n, h, past, v, rfl, A.move hp b3, prom (X := True) G3 v b3 hv, by omega, fun e => (by rw [hv.wish] at e; cases e), fun _ => .inl ⟨hv, made G3 v b3 hp3 hv⟩⟩⟩
  · rintro ds G Q E ⟨p, d, zs, n, h, past, b, rfl, hp, A, hg, hzs, z1, z4, hw, q⟩
    have pd := desk_ne A.at_ hp
    have rt := A.ok.track.rt
    have few := rt.few
    have hn12 := rt.hi
    have hn1 := rt.lo
    -- what is left to show behind a call
    have fin : ∀ G1 h', Beside p G G1 → AtPurse p b G1 → Good n zs h' → h'.ws.length ≤ h.ws.length + 1 → retD K Q .non (put G1 d (deskO a n h' (past ++ [h]))) := fun G1 h' b1 hp1 hg' hw' =>
      ret (q _ h' b1.two (hp1.at (put_ne pd)) put_same hg' hw')
    refine ⟨p, 9, b + 39, rfl, hp, by decide, by decide, fun G1 way b1 hp1 w0 w1 => ?_⟩
    have A1 := A.move hp b1
    refine ⟨_, desk_ins A1.at_, d, n, h, past, rfl, A1.at_, _, rfl, n, h.ps, rfl, Nat.le_trans few (by decide), by show 2 ≤ sizeLine; decide, rfl, _, rfl, compTIf (fun z => !decide (z ∈ h.ps.map (·.name))) D.str D.str (fun z hz R N r nn => ⟨_, rfl, rfl, flat_strsD _, ?_⟩) ?_ ?_⟩
    · rw [in_strs]
      exact ite2 (fun c => r c) (fun c => nn (by simpa using c))
    · rw [List.length_nil, Nat.zero_add]
      exact Nat.le_trans z4 (by decide)
    rw [List.nil_append]
    refine ⟨_, rfl, p, _, b + 38, rfl, hp1, by omega, by rw [List.length_map, List.length_map]; omega, fun G2 spot b2 hp2 s0 s1 => ?_⟩
    rw [List.length_map, List.length_map] at s1
    have b12 := b1.trans b2
    have A2 := A.move hp b12
    have hnames : ∀ z ∈ h.ps.map (·.name), nameOk z := fun z hz => by
      obtain ⟨u, hu, rfl⟩ := List.mem_map.mp hz
      exact strOk_of (name_signs (rt.right u hu).name)
    have hfree : ∀ z ∈ zs.filter (fun z => !decide (z ∈ h.ps.map (·.name))), nameOk z := fun z hz => strOk_of (name_signs (hzs z (List.mem_filter.mp hz).1).ok)
    -- a pass is put
    have isin : ∀ {G3 : GD}, AtDesk a pt d n h past G3 → insOf (.ref d) G3 = some (a.Desk, [(("held" : Str), heldD a n h), (("past" : Str), .tup (past.map (heldD a n)))]) := fun A3 => desk_ins A3.at_
    have oput : ∀ (z : Str) (r : List Str), zs.filter (fun z => !decide (z ∈ h.ps.map (·.name))) = z :: r → ∀ (G3 : GD) (u : Pass) (x : D), Beside p G2 G3 → AtPurse p b G3 → RightP n u → u.name = z → (x = .non ∨ x = .int spot) →
        sp_Desk_put (a := a) pt [.ref d, u.d, x] G3 (fun _ G4 => retD K Q .non G4) (fun cls fs G4 => exD E cls fs [] G4) := fun z r e G3 u x b3 hp3 hu hun hx => by
      have hz : z ∈ zs.filter (fun z => !decide (z ∈ h.ps.map (·.name))) := by rw [e]; exact List.mem_cons_self
      obtain ⟨hz1, hz2⟩ := List.mem_filter.mp hz
      have hz2 : z ∉ h.ps.map (·.name) := by simpa using hz2
      have ip : isPassD u.d n (h.ps.map (·.name)) = true := by
        rw [right_iff, right_mk hu, hun]
        simpa using hz2
      have l8 : h.ps.length < 8 := by have := hg.few; omega
      refine ⟨d, n, h, past, u.d, x, rfl, A.move hp (b12.trans b3), ask_of hu, fun e => ?_, fun _ => ⟨l8, ?_, fun p2 hp2 => ?_⟩⟩
      · rw [ip] at e; cases e
      · rcases hx with rfl | rfl
        · exact .inl rfl
        · exact .inr ⟨spot, rfl, s0, by omega⟩
      · obtain rfl := d_inj hp2
        refine fin G3 _ (b12.trans b3) hp3 ⟨⟨A.ok.track.putAt l8 (ask_of hu) ip, A.ok.easy⟩, fun v hv => ?_⟩ (by show h.ws.length ≤ _; omega)
        rcases List.mem_cons.mp ((perm_putAt _ _ _).subset hv) with rfl | hv
        · rw [hun]; exact hz1
        · exact hg.names v hv
    have eN : toPys ((h.ps.map (·.name)).map D.str) = some ((h.ps.map (·.name)).map PyData.str) := strs_py _
    have sN := strs_shaped hnames
    have sF := strs_shaped hfree
    refine ⟨by show 0 ≤ sizeLine; decide, .tuple ((h.ps.map (·.name)).map PyData.str), .tuple [], by show (toPys _).map PyData.tuple = _; rw [eN]; rfl, rfl, sN.1, rfl, ?_⟩
    rw [eqv_tup_nil]
    have rest : h.ps.map (·.name) ≠ [] → J_step1 (a := a) pt (endsOf K Q E) [some (.ref p), some (.ref d), some (.lst (zs.map D.str)), some (.int n), some (.int way), some (.tup ((h.ps.map (·.name)).map D.str)), some (.lst ((zs.filter (fun z => !decide (z ∈ h.ps.map (·.name)))).map D.str)), some (.int spot), none] G2 := fun nne =>
      ⟨p, d, zs, n, h, past, b, way, _, spot, rfl, hp2.mono (by omega), A2, hg, by
        cases e : h.ps with
        | nil => rw [e] at nne; exact absurd rfl nne
        | cons u r => simp, s0, by omega, hw, fun G3 h' b3 hp3 hg' hw' => fin G3 h' (b12.trans b3) hp3 hg' hw'⟩
    refine ite2 (fun c => ?_) (fun c => ite2 (fun cw => ⟨by show 0 ≤ sizeLine; decide, .list ((zs.filter (fun z => !decide (z ∈ h.ps.map (·.name)))).map PyData.str), .list [], by show (toPys _).map PyData.list = _; rw [strs_py]; rfl, rfl, sF.2, rfl, ?_⟩) (fun cw => rest (fun e => c (by rw [e]; rfl))))
    · have e0 : h.ps.map (·.name) = [] := by simpa using c
      have hne : ∃ z r, zs.filter (fun z => !decide (z ∈ h.ps.map (·.name))) = z :: r := by
        rw [e0]
        cases zs with
        | nil => simp at z1
        | cons z r => exact ⟨z, r, by simp⟩
      obtain ⟨z, r, ez⟩ := hne
      have hzm : z ∈ zs := (List.mem_filter.mp (by rw [ez]; exact List.mem_cons_self)).1
      refine ⟨_, isin A2, rfl, _, .str z, rfl, by rw [ez]; exact atI_nat (j := 0) rfl, p, z, n, 4, b + 1, rfl, hp2.mono (by omega), hn1, hn12, by decide, by decide, (hzs z hzm).ok, (hzs z hzm).old, fun G3 u b3 hp3 hu hun => ⟨by show 2 ≤ sizeLine; decide, p, _, _, b, rfl, .inl rfl, hp3, by show 1 ≤ 2; decide, by show 2 < 2 ^ 60; decide, fun G4 x b4 hp4 hx => ?_⟩⟩
      obtain ⟨c1, c2, c3, c4, c5, c6, c7, c8⟩ := oput z r ez G4 u x (b3.trans b4) hp4 hu hun (by simpa using hx)
      exact ⟨c1, c2, c3, c4, c5, c6, c7, c8⟩
    · rw [eqv_lst_nil]
      refine ite2 (fun c3 => ?_) (fun c3 => rest (fun e => c (by rw [e]; rfl)))
      have hne : ∃ z r, zs.filter (fun z => !decide (z ∈ h.ps.map (·.name))) = z :: r := by
        cases e : zs.filter (fun z => !decide (z ∈ h.ps.map (·.name))) with
        | nil => rw [e] at c3; exact absurd c3 Bool.false_ne_true
        | cons z r => exact ⟨z, r, rfl⟩
      obtain ⟨z, r, ez⟩ := hne
      have hzm : z ∈ zs := (List.mem_filter.mp (by rw [ez]; exact List.mem_cons_self)).1
      refine ⟨_, isin A2, rfl, _, .str z, rfl, by rw [ez]; exact atI_nat (j := 0) rfl, p, z, n, 4, b + 1, rfl, hp2.mono (by omega), hn1, hn12, by decide, by decide, (hzs z hzm).ok, (hzs z hzm).old, fun G3 u b3 hp3 hu hun => ⟨by show 2 ≤ sizeLine; decide, p, _, _, b, rfl, .inl rfl, hp3, by show 1 ≤ 2; decide, by show 2 < 2 ^ 60; decide, fun G4 x b4 hp4 hx => ?_⟩⟩
      obtain ⟨c1, c2, c3, c4, c5, c6, c7, c8⟩ := oput z r ez G4 u x (b3.trans b4) hp4 hu hun (by simpa using hx)
      exact ⟨c1, c2, c3, c4, c5, c6, c7, c8⟩
end
end TP
end
section
set_option maxRecDepth 100000
set_option maxHeartbeats 1000000
/-! The law's own defs: what is refused, what is taken back. -/
namespace TP
open PySem PySem.Spec PyProof.Rows DL
open L2 hiding Room FnOk takes0
open LamX (TabB)
abbrev qRef : Str := "_law_refused_right.<locals>.<lambda>"
/-- the errors that are caught -/
structure Caught (K : PySem.W.Frag) (a : Ad) (cs : List Value) : Prop where
  idx : PySem.W.exmAny K (.ref a.InvalidIndex) cs = some true
  name : PySem.W.exmAny K (.ref a.UnknownName) cs = some true
  pass : PySem.W.exmAny K (.ref a.InvalidPass) cs = some true
  change : PySem.W.exmAny K (.ref a.InvalidChange) cs = some true
  wish : PySem.W.exmAny K (.ref a.InvalidWish) cs = some true
  broken : PySem.W.exmAny K (.ref a.Broken) cs = some true
theorem AtDesk.own {a : Ad} {pt d p : Addr} {n : Int} {h : Held} {past : List Held} {G G1 : GD} (A : AtDesk a pt d n h past G) (hp : G p = none) (b : Beside p G G1) : AtDesk a pt d n h past G1 := by
  refine ⟨?_, A.ok, ?_, A.few⟩
  · rw [b d (fun q => by rw [← q, A.at_] at hp; cases hp)]; exact A.at_
  · rw [b pt (fun q => by rw [← q, A.tab] at hp; cases hp)]; exact A.tab
section
variable {P : Program} {w : World} {K : PySem.W.Frag} {mg : Str → Option Value} {base : Heap} {a : Ad} {f pt pl c : Addr} {fd : FuncData} {cs : List Value}
def sp_refused (pt pl : Addr) : SpD := fun ds G Q _ => ∃ d n h past zs, ds = [.ref d, .int n] ∧ AtDesk a pt d n h past G ∧ Good n zs h ∧ (∀ z ∈ zs, GoodName z) ∧ h.ws.length < 1000 ∧ G pl = some (.tab qRef) ∧ Q (.bl true) G
theorem no_body {n : Int} {zs : List Str} {h : Held} (hg : Good n zs h) (hzs : ∀ z ∈ zs, GoodName z) : hasName (.str "nobody") h.ps = false := by
  refine decide_eq_false fun hm => ?_
  obtain ⟨p, hp, e⟩ := List.mem_map.mp hm
  have h6 := (hzs _ (hg.names p hp)).six
  have e : p.name = "nobody" := e
  rw [e] at h6
  exact h6 (by decide +kernel)
theorem ok_refused (T : Txt K w mg a) (TB : TabB base mg c pl) (hc : fd.code = .ref c) (RF : Refuser K mg "_law_is_refused" cs) (X : Caught K a cs) (k_law_seen : Knows P w K mg base "_law_seen" 7 [] (sp_seen (a := a))) (k_Desk_promises : KnowsP P w K mg base a.Desk "promises" 1 (sp_Desk_promises (a := a)))
    (k_Desk_put1 : KnowsM P w K mg base a.Desk "put" 21 [.non] (sp_Desk_put (a := a) pt)) (k_Desk_take : KnowsM P w K mg base a.Desk "take" 21 [] (sp_Desk_take (a := a) pt)) (k_Desk_move : KnowsM P w K mg base a.Desk "move" 21 [] (sp_Desk_move (a := a) pt))
    (k_Desk_change : KnowsM P w K mg base a.Desk "change" 21 [] (sp_Desk_change (a := a) pt)) (k_Desk_lift : KnowsM P w K mg base a.Desk "lift" 21 [] (sp_Desk_lift (a := a) pt)) (k_Desk_promise : KnowsM P w K mg base a.Desk "promise" 21 [] (sp_Desk_promise (a := a) pt))
    (Fu : FunD K "_law_refused_right" "_law_refused_right" (defArgs s_law_refused_right) (defBody s_law_refused_right) (defScope s_law_refused_right) [] [] f fd) : FnD P w K mg base 30 f fd ["desk", "length"] (sp_refused (a := a) pt pl) := by
  refine fun_okL Fu hc sc_law_refused_right ?_ (fun A outer s H E hr => (dss_cons (ds_asg (de_tup (da_cons (de_call k_law_seen (hr.mono (by decide)) tk0 (da_cons (dv 0) da_nil)) (da_cons (de_callB len_okD T.len (by decide +kernel) (da_cons (de_prop T.clDesk k_Desk_promises (hr.mono (by decide)) (dv 0)) da_nil)) da_nil))) (dg_tup (n := 2) rfl (dgs_cons (dg_name (i := 3) sc_law_refused_right.nd rfl (Or.inl rfl)) (dgs_cons (dg_name (i := 4) sc_law_refused_right.nd rfl (Or.inr rfl)) dgs_nil))))
      (dss_cons (ds_set (i := 2) sc_law_refused_right.nd rfl (Or.inl rfl) (de_lstM (da_cons (de_refused (k := 24) (q := "_law_refused_right.<locals>.<lambda>") RF TB rfl (hr.mono (by decide)) (fun E A outer s H f c hr => (de_meth T.clDesk k_Desk_lift (hr.mono (by decide)) tkl (dv 0) (da_cons (dv 4) da_nil))) (L := by show LamX.lamSB (defScope s_law_refused_right) _ = true; decide +kernel)) da_nil)))
      (dss_cons (ds_expr (de_append (dv 2) (da_cons (de_refused (k := 24) (q := "_law_refused_right.<locals>.<lambda>") RF TB rfl (hr.mono (by decide)) (fun E A outer s H f c hr => (de_meth T.clDesk k_Desk_take (hr.mono (by decide)) tkl (dv 0) (da_cons de_str da_nil))) (L := by show LamX.lamSB (defScope s_law_refused_right) _ = true; decide +kernel)) da_nil)))
      (dss_cons (ds_expr (de_append (dv 2) (da_cons (de_refused (k := 24) (q := "_law_refused_right.<locals>.<lambda>") RF TB rfl (hr.mono (by decide)) (fun E A outer s H f c hr => (de_meth T.clDesk k_Desk_put1 (hr.mono (by decide)) tkl (dv 0) (da_cons (de_tup (da_cons de_str (da_cons de_str (da_cons de_int (da_cons (de_add (dv 1) de_int) (da_cons (de_tup da_nil) (da_cons de_int (da_cons de_str da_nil)))))))) da_nil))) (L := by show LamX.lamSB (defScope s_law_refused_right) _ = true; decide +kernel)) da_nil)))
      (dss_cons (ds_expr (de_append (dv 2) (da_cons (de_refused (k := 24) (q := "_law_refused_right.<locals>.<lambda>") RF TB rfl (hr.mono (by decide)) (fun E A outer s H f c hr => (de_meth T.clDesk k_Desk_change (hr.mono (by decide)) tkl (dv 0) (da_cons (de_tup (da_cons de_str (da_cons de_str (da_cons de_int da_nil)))) da_nil))) (L := by show LamX.lamSB (defScope s_law_refused_right) _ = true; decide +kernel)) da_nil)))
      (dss_cons (ds_expr (de_append (dv 2) (da_cons (de_refused (k := 24) (q := "_law_refused_right.<locals>.<lambda>") RF TB rfl (hr.mono (by decide)) (fun E A outer s H f c hr => (de_meth T.clDesk k_Desk_promise (hr.mono (by decide)) tkl (dv 0) (da_cons (de_tup (da_cons de_str (da_cons de_int (da_cons (de_add (dv 1) de_int) da_nil)))) da_nil))) (L := by show LamX.lamSB (defScope s_law_refused_right) _ = true; decide +kernel)) da_nil)))
      (dss_cons (ds_expr (de_append (dv 2) (da_cons (de_refused (k := 24) (q := "_law_refused_right.<locals>.<lambda>") RF TB rfl (hr.mono (by decide)) (fun E A outer s H f c hr => (de_meth T.clDesk k_Desk_promise (hr.mono (by decide)) tkl (dv 0) (da_cons (de_tup (da_cons de_str (da_cons de_str (da_cons de_int (da_cons de_int da_nil))))) da_nil))) (L := by show LamX.lamSB (defScope s_law_refused_right) _ = true; decide +kernel)) da_nil)))
      (dss_cons (ds_expr (de_append (dv 2) (da_cons (de_refused (k := 24) (q := "_law_refused_right.<locals>.<lambda>") RF TB rfl (hr.mono (by decide)) (fun E A outer s H f c hr => (de_meth T.clDesk k_Desk_move (hr.mono (by decide)) tkl (dv 0) (da_cons de_str (da_cons de_int da_nil)))) (L := by show LamX.lamSB (defScope s_law_refused_right) _ = true; decide +kernel)) da_nil)))
      (dss_one (ds_ret (de_and (de_cmp (eq_ok hr.units) (dv 2) (de_rep (de_lst (da_cons de_bl da_nil)) de_int) (nomark _)) (de_one (de_cmp (eq_ok hr.units) (de_call k_law_seen (hr.mono (by decide)) tk0 (da_cons (dv 0) da_nil)) (dv 3) (nomark _))))))))))))))) ?_
  · rintro ds G Q E ⟨d, n, h, past, zs, rfl, _⟩; rfl
  · rintro ds G Q E ⟨d, n, h, past, zs, rfl, A, hg, hzs, hw, hpl, q⟩
    have rt := A.ok.track.rt
    have few := rt.few
    have nb := no_body hg hzs
    refine ⟨d, n, h, past, rfl, A.at_, A.ok, by omega, A.few, _, desk_ins A.at_, d, n, h, past, rfl, A.at_, _, rfl, by show 2 ≤ sizeLine; decide, rfl, ?_⟩
    rw [List.length_map]
    refine ⟨hpl, _, desk_ins A.at_, rfl, d, n, h, past, .int h.ws.length, rfl, A, rfl, by omega, fun _ => ⟨X.idx, by show 1 ≤ sizeLine; decide, fun pf hpf => ?_⟩, fun i hi hil => ?_⟩
    rotate_left
    · have : i = h.ws.length := by injection hi with hi; omega
      omega
    have next : ∀ xs : List D, AtDesk a pt d n h past (put G pf (.lst xs)) ∧ put G pf (.lst xs) pl = some (.tab qRef) := fun xs =>
      ⟨A.own hpf .put, by rw [put_ne (fun e => by rw [e, hpf] at hpl; cases hpl)]; exact hpl⟩
    have sz : ∀ k : Nat, k < 20 → k < sizeLine := fun k hk => Nat.lt_of_lt_of_le hk (by decide)
    obtain ⟨A1, t1⟩ := next [.bl true]
    refine ⟨pf, _, rfl, put_same, t1, _, desk_ins A1.at_, rfl, d, n, h, past, .str "nobody", rfl, A1, rfl, fun _ => ⟨X.name, _, put_same, sz _ (by show 1 < 20; decide), ?_⟩, fun z hz hm => ?_⟩
    rotate_left
    · cases hz
      have nb : decide (("nobody" : Str) ∈ h.ps.map (·.name)) = false := nb
      rw [decide_eq_true hm] at nb
      cases nb
    rw [put_put]
    obtain ⟨A2, t2⟩ := next [.bl true, .bl true]
    have nopass : isPassD (.tup [.str "nobody", .str "touch", .int 0, .int (n + 1), .tup [], .int 0, .str "on"]) n (h.ps.map (·.name)) = false := by
      have e : isStretchD (.tup [.int 0, .int (n + 1)]) 0 n = false := by
        refine decide_eq_false fun z => ?_
        omega
      show (_ && _ && _ && _ && isStretchD (.tup [.int 0, .int (n + 1)]) 0 n && _ && _ && _) = false
      rw [e]
      simp
    refine ⟨pf, _, rfl, put_same, t2, _, desk_ins A2.at_, rfl, by show 0 ≤ sizeLine; decide, by show 7 ≤ sizeLine; decide, d, n, h, past, .tup [.str "nobody", .str "touch", .int 0, .int (n + 1), .tup [], .int 0, .str "on"], .non, rfl, A2, ⟨rfl, ⟨rfl, by show ("nobody" : Str).length ≤ sizeLine; exact Nat.le_trans (by decide +kernel : _ ≤ 10) (by decide)⟩, rfl, rfl, rfl, ⟨rfl, by show 0 ≤ sizeLine; decide⟩, rfl, rfl⟩, fun _ => ⟨X.pass, _, put_same, sz _ (by show 2 < 20; decide), ?_⟩, fun e => ?_⟩
    rotate_left
    · rw [nopass] at e; cases e
    rw [put_put]
    obtain ⟨A3, t3⟩ := next [.bl true, .bl true, .bl true]
    have nochange : isChangeD (.tup [.str "nobody", .str "glide", .int 0]) h.ps = false := by
      show (hasName (.str "nobody") h.ps && _) = false
      rw [nb]
      rfl
    refine ⟨pf, _, rfl, put_same, t3, _, desk_ins A3.at_, rfl, by show 3 ≤ sizeLine; decide, d, n, h, past, .tup [.str "nobody", .str "glide", .int 0], rfl, A3, ⟨rfl, rfl, rfl⟩, fun _ => ⟨X.change, _, put_same, sz _ (by show 3 < 20; decide), ?_⟩, fun e => ?_⟩
    rotate_left
    · rw [nochange] at e; cases e
    rw [put_put]
    obtain ⟨A4, t4⟩ := next [.bl true, .bl true, .bl true, .bl true]
    have nokept : isWishS n (.kept 0 (n + 1)) = false := by
      refine decide_eq_false fun z => ?_
      omega
    refine ⟨pf, _, rfl, put_same, t4, _, desk_ins A4.at_, rfl, by show 3 ≤ sizeLine; decide, d, n, h, past, .kept 0 (n + 1), rfl, A4, fun z x y e => (by cases e), by omega, fun _ => ⟨X.wish, _, put_same, sz _ (by show 4 < 20; decide), ?_⟩, fun e => ?_⟩
    rotate_left
    · rw [nokept] at e; cases e
    rw [put_put]
    obtain ⟨A5, t5⟩ := next [.bl true, .bl true, .bl true, .bl true, .bl true]
    have isheard : isWishS n (.heard "nobody" 0 1) = true := by
      show (isNameS "nobody" && isStretchD (.tup [.int 0, .int 1]) 0 n) = true
      have e1 : isNameS "nobody" = true := by decide +kernel
      have e2 : isStretchD (.tup [.int 0, .int 1]) 0 n = true := stretch_iff.mpr ⟨by decide, by decide, rt.lo⟩
      rw [e1, e2]
      rfl
    refine ⟨pf, _, rfl, put_same, t5, _, desk_ins A5.at_, rfl, by show 4 ≤ sizeLine; decide, d, n, h, past, .heard "nobody" 0 1, rfl, A5, fun z x y e => ?_, by omega, fun e => ?_, fun _ => .inr ⟨⟨_, _, _, rfl⟩, X.broken, _, put_same, sz _ (by show 5 < 20; decide), ?_⟩⟩
    · cases e
      exact ⟨Nat.le_trans (by decide +kernel : _ ≤ 10) (by decide), nb⟩
    · rw [isheard] at e; cases e
    rw [put_put]
    obtain ⟨A6, t6⟩ := next [.bl true, .bl true, .bl true, .bl true, .bl true, .bl true]
    refine ⟨pf, _, rfl, put_same, t6, _, desk_ins A6.at_, rfl, d, n, h, past, .str "nobody", .int 0, rfl, A6, rfl, rfl, fun _ => ⟨X.name, _, put_same, sz _ (by show 6 < 20; decide), ?_⟩, fun z hz hm => ?_⟩
    rotate_left
    · cases hz
      have nb : decide (("nobody" : Str) ∈ h.ps.map (·.name)) = false := nb
      rw [decide_eq_true hm] at nb
      cases nb
    rw [put_put]
    obtain ⟨A7, t7⟩ := next [.bl true, .bl true, .bl true, .bl true, .bl true, .bl true, .bl true]
    refine ⟨by show 1 ≤ sizeLine; decide, by decide, by decide, by show 1 * 7 ≤ sizeLine; decide, .list (List.replicate 7 (.bool true)), .list (List.replicate 7 (.bool true)), ?_, rfl, by decide, by decide, ?_⟩
    · show (match put G pf (.lst [.bl true, .bl true, .bl true, .bl true, .bl true, .bl true, .bl true]) pf with
        | some (.lst ds) => (toPys ds).map PyData.list
        | _ => none) = _
      rw [put_same]
      rfl
    · have e7 : PyData.eqv (.list (List.replicate 7 (.bool true))) (.list (List.replicate 7 (.bool true))) = true := by decide
      rw [e7]
      refine ⟨d, n, h, past, rfl, A7.at_, A.ok, by omega, A.few, ?_⟩
      show retD K Q (.bl (decide (seenS n h past.length = seenS n h past.length))) _
      rw [decide_eq_true rfl]
      exact retL (Less.put hpf) q
/-! ### taken back -/
def seenL (n : Int) (past : List Held) : List Str := past.mapIdx fun i g => seenS n g i
theorem seenL_snoc (n : Int) (past : List Held) (g : Held) : seenL n (past ++ [g]) = seenL n past ++ [seenS n g past.length] := by
  unfold seenL
  rw [List.mapIdx_append]
  simp
theorem seenL_len (n : Int) (past : List Held) : (seenL n past).length = past.length := List.length_mapIdx
/-- all that has been -/
def Chain (n : Int) (zs : List Str) (l : List Held) : Prop := ∀ (i : Nat) g, l[i]? = some g → Good n zs g ∧ g.ws.length ≤ i
theorem Chain.left {n : Int} {zs : List Str} {l m : List Held} (c : Chain n zs (l ++ m)) : Chain n zs l := fun i g h => c i g (by
  have := (List.getElem?_eq_some_iff.mp h).1
  rw [List.getElem?_append_left this]
  exact h)
theorem Chain.at {n : Int} {zs : List Str} {l m : List Held} {g : Held} (c : Chain n zs (l ++ g :: m)) : Good n zs g ∧ g.ws.length ≤ l.length := c l.length g (by simp)
theorem Beside2.trans {p d : Addr} {G G1 G2 : GD} (a : Beside2 p d G G1) (b : Beside2 p d G1 G2) : Beside2 p d G G2 := fun q h1 h2 => (b q h1 h2).trans (a q h1 h2)
def sp_back : SpD := fun ds G Q _ => ∃ d sa n zs h past, ∃ m : Nat, ds = [.ref d, .ref sa, .int m] ∧ m ≤ past.length ∧ past.length < 1000 ∧ Chain n zs (past ++ [h]) ∧ G d = some (deskO a n h past) ∧ G sa = some (.lst ((seenL n past).map D.str)) ∧
  ∀ G' p1 g1 r1, past ++ [h] = p1 ++ g1 :: r1 → r1.length = m → Beside2 d sa G G' → G' d = some (deskO a n g1 p1) → G' sa = some (.lst ((seenL n p1).map D.str)) → Q (.bl true) G'
theorem ok_back (T : Txt K w mg a) (k_law_seen : Knows P w K mg base "_law_seen" 7 [] (sp_seen (a := a))) (k_Desk_undo : KnowsM P w K mg base a.Desk "undo" 3 [] (sp_Desk_undo (a := a)))
    (Fu : FunD K "_law_back_right" "_law_back_right" (defArgs s_law_back_right) (defBody s_law_back_right) (defScope s_law_back_right) [] [] f fd) : FnD P w K mg base 9 f fd ["desk", "seen", "many"] (sp_back (a := a)) := by
  refine fun_ok Fu sc_law_back_right ?_ (fun cdv A outer s H E hr => (dss_cons (ds_for po0 rfl (di_range1 T.range (da_cons (dv 2) da_nil)) (dg_name (i := 3) sc_law_back_right.nd rfl (Or.inl rfl)) (dss_one (ds_if (dt_w (dw_or (dt_cmp isNotN_ok (de_meth0 T.clDesk k_Desk_undo (hr.mono (by decide)) tk0 (dv 0)) de_non (nomark _)) (dw_or1 (dt_cmp (ne_ok hr.units) (de_call k_law_seen (hr.mono (by decide)) tk0 (da_cons (dv 0) da_nil)) (de_pop (dv 1)) (nomark _))))) (dss_one (ds_ret de_bl)) dss_nil)))
      (dss_one (ds_ret de_bl)))) ?_
  · rintro ds G Q E ⟨d, sa, n, zs, h, past, m, rfl, _⟩; rfl
  · rintro ds G Q E ⟨d, sa, n, zs, h, past, m, rfl, hm, hl, hc, hd, hs, q⟩
    have ne : d ≠ sa := fun e => by rw [e, hs] at hd; cases hd
    refine ⟨⟨by omega, by omega⟩, ?_⟩
    refine loop_inv (fun rest s Gc => ∃ (k : Nat) (lo : Int) (p1 : List Held) (g1 : Held) (r1 : List Held) (o3 : Option D), rest = intsFrom lo k ∧ past ++ [h] = p1 ++ g1 :: r1 ∧ r1.length + k = m ∧ s = [some (.ref d), some (.ref sa), some (.int m), o3] ∧
      Beside2 d sa G Gc ∧ Gc d = some (deskO a n g1 p1) ∧ Gc sa = some (.lst ((seenL n p1).map D.str))) ?_ ?_ ⟨m, 0, past, h, [], none, by rw [Int.toNat_natCast], rfl, by simp, rfl, fun _ _ _ => rfl, hd, hs⟩
    · rintro x ds s Gc ⟨k, lo, p1, g1, r1, o3, hr, e, hk, rfl, b, hd1, hs1⟩ R hR
      cases k with
      | zero => cases hr
      | succ k =>
        cases hr
        have el := congrArg List.length e
        simp only [List.length_append, List.length_cons, List.length_nil] at el
        rcases List.eq_nil_or_concat p1 with rfl | ⟨p0, g0, rfl⟩
        · simp at el; omega
        rw [List.concat_eq_append] at e el hd1 hs1
        have e2 : past ++ [h] = p0 ++ g0 :: (g1 :: r1) := by rw [e]; simp
        have hc0 : Good n zs g0 ∧ g0.ws.length ≤ p0.length := by rw [e2] at hc; exact hc.at
        simp only [List.length_append, List.length_cons, List.length_nil] at el
        refine ⟨_, desk_ins hd1, rfl, d, n, g1, p0 ++ [g0], rfl, hd1, fun z => by simp at z, fun p g hpg => ?_⟩
        obtain ⟨rfl, hg⟩ := List.append_inj' hpg rfl
        cases hg
        refine ⟨d, n, g0, p0, rfl, put_same, hc0.1.ok, by omega, by omega, sa, (seenL n p0).map D.str, .str (seenS n g0 p0.length), rfl, ?_, ?_⟩
        · rw [put_ne ne.symm, hs1, seenL_snoc, List.map_append]
          rfl
        · have fin := hR [some (.ref d), some (.ref sa), some (.int m), some (.int lo)] (put (put Gc d (deskO a n g0 p0)) sa (.lst ((seenL n p0).map D.str))) ⟨k, lo + 1, p0, g0, g1 :: r1, _, rfl, e2, by simp; omega, rfl, fun q h1 h2 => by rw [put_ne h2, put_ne h1]; exact b q h1 h2, by rw [put_ne ne, put_same], put_same⟩
          have es : (!decide (seenS n g0 p0.length = seenS n g0 p0.length)) = false := by rw [decide_eq_true rfl]; rfl
          show (if (!decide (seenS n g0 p0.length = seenS n g0 p0.length)) = true then _ else _)
          rw [es]
          exact ite_ff fin
    · rintro s Gc ⟨k, lo, p1, g1, r1, o3, hr, e, hk, rfl, b, hd1, hs1⟩
      cases k with
      | succ k => cases hr
      | zero => exact ret (q Gc p1 g1 r1 e (by omega) b hd1 hs1)
end
end TP
end
section
set_option maxRecDepth 100000
set_option maxHeartbeats 1000000
/-! The law's own defs: the whole. -/
namespace TP
open PySem PySem.Spec PyProof.Rows DL
open L2 hiding Room FnOk takes0
open LamX (TabB)
abbrev h0 : Held := ⟨[], []⟩
/-- desk, what has been told, purse -/
structure St (a : Ad) (p d sa : Addr) (n : Int) (zs : List Str) (h : Held) (past : List Held) (b : Nat) (G : GD) : Prop where
  desk : G d = some (deskO a n h past)
  seen : G sa = some (.lst ((seenL n past).map D.str))
  purse : AtPurse p b G
  chain : Chain n zs (past ++ [h])
theorem St.ne {a : Ad} {p d sa : Addr} {n : Int} {zs : List Str} {h : Held} {past : List Held} {b : Nat} {G : GD} (S : St a p d sa n zs h past b G) : p ≠ d ∧ d ≠ sa ∧ p ≠ sa := by
  refine ⟨desk_ne S.desk S.purse, fun e => ?_, fun e => ?_⟩
  · have := S.desk
    rw [e, S.seen] at this
    cases this
  · obtain ⟨x, y, z, e2, _⟩ := S.purse
    rw [e, S.seen] at e2
    have e3 : (seenL n past).map D.str = [.int x, .int y, .int z] := by
      injection e2 with e2
      injection e2 with e2
    cases e4 : seenL n past with
    | nil => rw [e4] at e3; cases e3
    | cons u r => rw [e4] at e3; cases e3
def Beside3 (p d sa : Addr) (G G' : GD) : Prop := ∀ q, q ≠ p → q ≠ d → q ≠ sa → G' q = G q
section
variable {P : Program} {w : World} {K : PySem.W.Frag} {mg : Str → Option Value} {base : Heap} {a : Ad} {f pt pl : Addr} {fd : FuncData}
def J_right3 : TDS := fun Dn s G => ∃ p d sa n zs h past b o2, ∃ m : Nat, s = [some (.ref p), some (.ref d), o2, some (.int n), some (.lst (zs.map D.str)), some (.ref sa), some (.int m)] ∧ St a p d sa n zs h past b G ∧ past.length < 1000 ∧ m ≤ past.length ∧
  ∀ G' p1 g1 r1, past ++ [h] = p1 ++ g1 :: r1 → Beside3 p d sa G G' → St a p d sa n zs g1 p1 b G' → Dn.nx s G'
def J_right1 : TDS := fun Dn s G => ∃ d n o0 o2 o3 o4 o5 o6, s = [o0, some (.ref d), o2, o3, o4, o5, o6] ∧ G d = some (deskO a n h0 []) ∧ Dn.rt (.bl true) G
def J_right2 : TDS := fun Dn s G => ∃ p d sa n zs h past b o2 o6, s = [some (.ref p), some (.ref d), o2, some (.int n), some (.lst (zs.map D.str)), some (.ref sa), o6] ∧ St a p d sa n zs h past (b + 2) G ∧ past.length < 1000 ∧
  ∀ G' p1 g1 r1 o6', past ++ [h] = p1 ++ g1 :: r1 → Beside3 p d sa G G' → St a p d sa n zs g1 p1 b G' → Dn.nx [some (.ref p), some (.ref d), o2, some (.int n), some (.lst (zs.map D.str)), some (.ref sa), o6'] G'
theorem St.by {p d sa : Addr} {n : Int} {zs : List Str} {h : Held} {past : List Held} {b c : Nat} {G G1 : GD} (S : St a p d sa n zs h past b G) (bs : Beside p G G1) (hp : AtPurse p c G1) : St a p d sa n zs h past c G1 := by
  obtain ⟨n1, n2, n3⟩ := S.ne
  exact ⟨by rw [bs d n1.symm]; exact S.desk, by rw [bs sa n3.symm]; exact S.seen, hp, S.chain⟩
theorem St.three {p d sa : Addr} {G G1 : GD} (bs : Beside p G G1) : Beside3 p d sa G G1 := fun q h1 _ _ => bs q h1
def sp_right (pt pl : Addr) : SpD := fun ds G Q _ => ∃ p, ds = [.ref p] ∧ AtPurse p (2 ^ 59) G ∧ G pt = some (.tab qTold) ∧ G pl = some (.tab qRef) ∧ ∀ G', Beside p G G' → Q (.bl true) G'
theorem ok_right (T : Txt K w mg a) (hx : PySem.W.exmOne K (.ref a.NothingToUndo) (.ref a.NothingToUndo) = some true) (k_law_take : Knows P w K mg base "_law_take" 1 [] sp_take) (k_law_one : Knows P w K mg base "_law_one" 3 [] sp_one) (k_law_names : Knows P w K mg base "_law_names" 5 [] sp_names)
    (k_Track1 : KnowsC P w K mg base a.Track 5 [.tup []] (sp_Track_init (a := a))) (k_Desk : KnowsC P w K mg base a.Desk 5 [] (sp_Desk_init (a := a))) (k_law_seen : Knows P w K mg base "_law_seen" 7 [] (sp_seen (a := a))) (k_law_step : Knows P w K mg base "_law_step" 23 [] (sp_step (a := a) pt))
    (k_Desk_changes : KnowsP P w K mg base a.Desk "changes" 1 (sp_Desk_changes (a := a))) (kc_Desk_changes : KnowsPC P w K mg base a.Desk "changes" 1 (sp_Desk_changes (a := a))) (k_law_refused_right : Knows P w K mg base "_law_refused_right" 30 [] (sp_refused (a := a) pt pl))
    (k_law_back_right : Knows P w K mg base "_law_back_right" 9 [] (sp_back (a := a))) (k_Desk_undo : KnowsM P w K mg base a.Desk "undo" 3 [] (sp_Desk_undo (a := a)))
    (Fu : FunD K "_law_right" "_law_right" (defArgs s_law_right) (defBody s_law_right) (defScope s_law_right) [] [] f fd) : FnD P w K mg base 32 f fd ["purse"] (sp_right pt pl) := by
  refine fun_ok Fu sc_law_right ?_ (fun cdv A outer s H E hr => (dss_cons (ds_par3 (i := 3) (j := 4) (k := 5) rfl sc_law_right.nd rfl rfl rfl (by decide) rfl rfl rfl (da_cons (de_call k_law_one (hr.mono (by decide)) tk0 (da_cons (dv 0) (da_cons (de_lst (da_cons (de_add de_int (de_call k_law_take (hr.mono (by decide)) tk0 (da_cons (dv 0) (da_cons de_int da_nil)))) (da_cons (de_pow de_int de_int) da_nil))) da_nil))) (da_cons (de_call k_law_names (hr.mono (by decide)) tk0 (da_cons (dv 0) (da_cons de_int da_nil))) (da_cons (de_lstM da_nil) da_nil))) (by rfl))
      (dss_cons (ds_set (i := 1) sc_law_right.nd rfl (Or.inl rfl) (de_make (K := K) k_Desk T.gDesk (hr.mono (by decide)) tk0 (da_cons (de_make (K := K) k_Track1 T.gTrack (hr.mono (by decide)) tk0 (da_cons (dv 3) da_nil)) da_nil)))
      (dss_cons (ds_for po0 rfl (di_range1 T.range (da_cons (de_add de_int (de_call k_law_take (hr.mono (by decide)) tk0 (da_cons (dv 0) (da_cons de_int da_nil)))) da_nil)) (dg_name (i := 2) sc_law_right.nd rfl (Or.inl rfl)) (dss_cons (ds_expr (de_append (dv 5) (da_cons (de_call k_law_seen (hr.mono (by decide)) tk0 (da_cons (dv 1) da_nil)) da_nil)))
      (dss_cons (ds_expr (de_call k_law_step (hr.mono (by decide)) tk0 (da_cons (dv 0) (da_cons (dv 1) (da_cons (dv 4) (da_cons (dv 3) da_nil))))))
      (dss_cons (ds_if (dt_cmp (ne_ok hr.units) (de_prop T.clDesk k_Desk_changes (hr.mono (by decide)) (dv 1)) (de_callB len_okD T.len (by decide +kernel) (da_cons (dv 5) da_nil)) (nomark _)) (dss_one (ds_ret de_bl)) dss_nil)
      (dss_cons (ds_if (dt_w (dw_and (dt_cmp (eq_ok hr.units) (de_call k_law_take (hr.mono (by decide)) tk0 (da_cons (dv 0) (da_cons de_int da_nil))) de_int (nomark _)) (dw_and1 (dt_not (dt_val (de_call k_law_refused_right (hr.mono (by decide)) tk0 (da_cons (dv 1) (da_cons (dv 3) da_nil)))))))) (dss_one (ds_ret de_bl)) dss_nil)
      (dss_to (J_right2 (a := a)) (dss_cons (ds_set (i := 6) sc_law_right.nd rfl (Or.inl rfl) (de_ifExp (dt_cmp (eq_ok hr.units) (de_call k_law_take (hr.mono (by decide)) tk0 (da_cons (dv 0) (da_cons de_int da_nil))) de_int (nomark _)) (de_call k_law_take (hr.mono (by decide)) tk0 (da_cons (dv 0) (da_cons (de_add de_int (de_callB (min_okD rfl) T.min (by decide +kernel) (da_cons de_int (da_cons (de_callB len_okD T.len (by decide +kernel) (da_cons (dv 5) da_nil)) da_nil)))) da_nil))) de_int))
      (dss_to (J_right3 (a := a)) (dss_one (ds_if (dt_not (dt_val (de_call k_law_back_right (hr.mono (by decide)) tk0 (da_cons (dv 1) (da_cons (dv 5) (da_cons (dv 6) da_nil)))))) (dss_one (ds_ret de_bl)) dss_nil)) ?_)) ?_))))))
      (dss_cons (ds_if (dt_w (dw_or (dt_not (dt_val (de_call k_law_back_right (hr.mono (by decide)) tk0 (da_cons (dv 1) (da_cons (dv 5) (da_cons (de_callB len_okD T.len (by decide +kernel) (da_cons (dv 5) da_nil)) da_nil)))))) (dw_or1 (dt_cmp (ne_ok hr.units) (de_call k_law_seen (hr.mono (by decide)) tk0 (da_cons (dv 1) da_nil)) (de_call k_law_seen (hr.mono (by decide)) tk0 (da_cons (de_make (K := K) k_Desk T.gDesk (hr.mono (by decide)) tk0 (da_cons (de_make (K := K) k_Track1 T.gTrack (hr.mono (by decide)) tk0 (da_cons (dv 3) da_nil)) da_nil)) da_nil)) (nomark _))))) (dss_one (ds_ret de_bl)) dss_nil)
      (dss_to (J_right1 (a := a)) (dss_cons (ds_try (by exact tests_one (names_cls T.gNothingToUndo)) tk0 (fun W pn xe tk hp => (dss_one (ds_expr (de_meth0 T.clDesk k_Desk_undo (hr.mono (by decide)) tk (dv 1))))) (fun a oe pn => (dss_one (ds_ret (de_cmp (eq_ok hr.units) (de_propC T.clDesk kc_Desk_changes (roomH_mark (roomH_of (hr.mono (by decide)))) (dv 1)) de_int (nomark _))))))
      (dss_one (ds_ret de_bl))) ?_)))))) ?_
  · rintro ds G Q E ⟨p, rfl, _⟩; rfl
  · rintro Dn s G ⟨p, d, sa, n, zs, h, past, b, o2, m, rfl, S, hl, hm, q⟩
    obtain ⟨n1, n2, n3⟩ := S.ne
    refine ⟨d, sa, n, zs, h, past, m, rfl, hm, hl, S.chain, S.desk, S.seen, fun G' p1 g1 r1 e hr b2 hd hs => q G' p1 g1 r1 e (fun q h1 h2 h3 => b2 q h2 h3) ⟨hd, hs, S.purse.at (b2 p n1 n3), ?_⟩⟩
    have c := S.chain
    rw [e] at c
    have e2 : p1 ++ g1 :: r1 = (p1 ++ [g1]) ++ r1 := by simp
    rw [e2] at c
    exact c.left
  · rintro Dn s G ⟨p, d, sa, n, zs, h, past, b, o2, o6, rfl, S, hl, q⟩
    have three : ∀ (G1 : GD) (m : Nat), Beside p G G1 → AtPurse p b G1 → m ≤ past.length → J_right3 (a := a) Dn [some (.ref p), some (.ref d), o2, some (.int n), some (.lst (zs.map D.str)), some (.ref sa), some (.int m)] G1 := fun G1 m b1 hp1 hm =>
      ⟨p, d, sa, n, zs, h, past, b, o2, m, rfl, S.by b1 hp1, hl, hm, fun G' p1 g1 r1 e b2 S2 => q G' p1 g1 r1 _ e (fun q h1 h2 h3 => (b2 q h1 h2 h3).trans (b1 q h1)) S2⟩
    refine ⟨p, 4, b + 1, rfl, S.purse, by decide, by decide, fun G1 r b1 hp1 r0 r1 => ite2 (fun c => ?_) (fun c => three G1 0 b1 (hp1.mono (by omega)) (Nat.zero_le _))⟩
    have S1 := S.by b1 hp1
    refine ⟨_, seq_ref S1.seen, p, _, b, rfl, hp1, ?_, ?_, fun G2 r b2 hp2 r0 r1 => ?_⟩
    · split <;> omega
    · split <;> omega
    · obtain ⟨j, rfl⟩ := Int.eq_ofNat_of_zero_le r0
      refine three G2 j (b1.trans b2) hp2 ?_
      rw [List.length_map, seenL_len] at r1
      split at r1 <;> omega
  · rintro Dn s G ⟨d, n, o0, o2, o3, o4, o5, o6, rfl, hdd, q⟩
    exact ⟨_, desk_ins hdd, rfl, d, n, h0, [], rfl, hdd, fun _ => ⟨true, hx, _, desk_ins hdd, d, n, h0, [], rfl, hdd, q⟩, fun p g e => by cases p <;> cases e⟩
  · rintro ds G Q E ⟨p, rfl, hp, hpt, hpl, q⟩
    have hp : AtPurse p (100000 + 44 + 1 + 1) G := hp.mono (by decide)
    refine ⟨p, 20, _, rfl, hp, by decide, by decide, fun G1 r b1 hp1 r0 r1 => ⟨⟨by decide, by decide, by decide⟩, by show 2 ≤ sizeLine; decide, p, _, _, _, rfl, .inl rfl, hp1, by show 1 ≤ 2; decide, by show 2 < 2 ^ 60; decide, fun G2 x b2 hp2 hx2 => ?_⟩⟩
    obtain ⟨n, rfl, hn1, hn2⟩ : ∃ n : Int, x = .int n ∧ 1 ≤ n ∧ n ≤ 10 ^ 12 := by
      simp only [List.mem_cons, List.not_mem_nil, or_false] at hx2
      rcases hx2 with rfl | rfl
      · exact ⟨1 + r, rfl, by omega, by omega⟩
      · exact ⟨_, rfl, by decide, by decide⟩
    refine ⟨p, 100000, 4, rfl, by decide, hp2, fun G3 zs b3 hp3 hzl hzs => ⟨by show 0 ≤ sizeLine; decide, fun sa hsa => ?_⟩⟩
    have b123 := (b1.trans b2).trans b3
    have psa := hp3.ne hsa
    have gsa : G sa = none := by rw [← b123 sa psa.symm]; exact hsa
    have track0 : TrackOk n [] := ⟨hn1, hn2, by decide, fun _ h => (List.not_mem_nil h).elim, fun _ h => (List.not_mem_nil h).elim, .nil⟩
    have ok0 : DeskOk n h0 := ⟨track0, fun _ h => (List.not_mem_nil h).elim⟩
    refine fun x hx => ⟨x, n, [], rfl, put_same, hn1, hn2, by decide, fun _ h => (List.not_mem_nil h).elim, rfl, rfl, ret_made hx fun d hd => ⟨d, n, [], rfl, put_same, rfl, ret ?_⟩⟩
    rw [put_put]
    have dsa : d ≠ sa := fun e => by rw [e, put_same] at hd; cases hd
    have g3d : G3 d = none := by rw [put_ne dsa] at hd; exact hd
    have pd := hp3.ne g3d
    have gd : G d = none := by rw [← b123 d pd.symm]; exact g3d
    have near0 : Near p G (put (put G3 sa (.lst [])) d (deskO a n h0 [])) := (((Near.refl p G).call b123).own gsa).own gd
    have chain0 : Chain n zs ([] ++ [h0]) := fun i g hi => by
      cases i with
      | zero => cases (show h0 = g by simpa using hi); exact ⟨⟨ok0, fun _ h => (List.not_mem_nil h).elim⟩, Nat.le_refl _⟩
      | succ i => simp at hi
    have st0 : St a p d sa n zs h0 [] 100000 (put (put G3 sa (.lst [])) d (deskO a n h0 [])) := ⟨put_same, by rw [put_ne dsa.symm, put_same]; rfl, (hp3.at (put_ne psa)).at (put_ne pd), chain0⟩
    have tabs : ∀ {Gc : GD}, Near p G Gc → Gc pt = some (.tab qTold) ∧ Gc pl = some (.tab qRef) := fun near => by
      obtain ⟨x, y, z, e, _⟩ := hp
      exact ⟨near pt _ (fun q => by rw [q, e] at hpt; cases hpt) hpt, near pl _ (fun q => by rw [q, e] at hpl; cases hpl) hpl⟩
    refine ⟨p, 19, 99999, rfl, st0.purse, by decide, by decide, fun G5 r5 b5 hp5 r50 r51 => ⟨⟨by omega, by omega⟩, ?_⟩⟩
    refine loop_inv (fun rest s Gc => ∃ (k : Nat) (lo : Int) (past : List Held) (h : Held) (o2 o6 : Option D), rest = intsFrom lo k ∧ past.length + k ≤ 24 ∧ s = [some (.ref p), some (.ref d), o2, some (.int n), some (.lst (zs.map D.str)), some (.ref sa), o6] ∧ (past ++ [h]).head? = some h0 ∧
      St a p d sa n zs h past (100 * k) Gc ∧ Near p G Gc) ?_ ?_ ⟨(6 + r5).toNat, 0, [], h0, none, none, rfl, by simp; omega, rfl, rfl, st0.by b5 (hp5.mono (by omega)), near0.call b5⟩
    · rintro x ds s Gc ⟨k, lo, past, h, o2, o6, hr, hk, rfl, hh, S, near⟩ R hR
      cases k with
      | zero => cases hr
      | succ k =>
        cases hr
        obtain ⟨t1, t2⟩ := tabs near
        have hgood := S.chain.at
        have few : past.length < 1000 := by omega
        refine ⟨sa, _, rfl, S.seen, d, n, h, past, rfl, S.desk, hgood.1.ok, by omega, by omega, _, S.seen, ?_, ?_⟩
        · rw [List.length_map, seenL_len]
          exact Nat.lt_of_lt_of_le few (by decide)
        have es : (seenL n past).map D.str ++ [.str (seenS n h past.length)] = (seenL n (past ++ [h])).map D.str := by
          rw [seenL_snoc, List.map_append]
          rfl
        rw [es]
        have ne3 := S.ne
        have hpt1 : (put Gc sa (.lst ((seenL n (past ++ [h])).map D.str))) pt = some (.tab qTold) := by
          rw [put_ne (fun e => by rw [e, S.seen] at t1; cases t1)]; exact t1
        have A1 : AtDesk a pt d n h past (put Gc sa (.lst ((seenL n (past ++ [h])).map D.str))) := ⟨by rw [put_ne ne3.2.1]; exact S.desk, hgood.1.ok, hpt1, by omega⟩
        have hpu : AtPurse p (100 * k + 60 + 40) (put Gc sa (.lst ((seenL n (past ++ [h])).map D.str))) := (S.purse.mono (by omega)).at (put_ne ne3.2.2)
        refine ⟨p, d, zs, n, h, past, 100 * k + 60, rfl, hpu, A1, hgood.1, hzs, by omega, by omega, by omega, fun G2 h' b2 hp2 hd2 hg2 hw2 => ?_⟩
        have hs2 : G2 sa = some (.lst ((seenL n (past ++ [h])).map D.str)) := by rw [b2 sa ne3.2.2.symm ne3.2.1.symm, put_same]
        have S2 : St a p d sa n zs h' (past ++ [h]) (100 * k + 60) G2 := ⟨hd2, hs2, hp2, fun i g hi => by
          by_cases lt : i < (past ++ [h]).length
          · rw [List.getElem?_append_left lt] at hi
            exact S.chain i g hi
          · have hi2 := (List.getElem?_eq_some_iff.mp hi).1
            have ei : i = (past ++ [h]).length := by simp only [List.length_append, List.length_cons, List.length_nil] at hi2 lt ⊢; omega
            subst ei
            rw [List.getElem?_append_right (Nat.le_refl _), Nat.sub_self] at hi
            cases (show h' = g by simpa using hi)
            refine ⟨hg2, ?_⟩
            have := hgood.2
            simp only [List.length_append, List.length_cons, List.length_nil]
            omega⟩
        have near2 : Near p G G2 := fun q o hq e => by
          have e1 := near q o hq e
          have qd : q ≠ d := fun z => by rw [z, gd] at e; cases e
          have qs : q ≠ sa := fun z => by rw [z, gsa] at e; cases e
          rw [b2 q hq qd, put_ne qs]
          exact e1
        refine ⟨_, desk_ins hd2, d, n, h', past ++ [h], rfl, hd2, _, seq_ref hs2, ite2 (fun c => ?_) (fun _ => ?_)⟩
        · rw [List.length_map, seenL_len] at c
          simp at c
        have next : ∀ G3, Beside p G2 G3 → AtPurse p (100 * k + 50) G3 → ∀ G' p1 g1 r1 o6', past ++ [h] ++ [h'] = p1 ++ g1 :: r1 → Beside3 p d sa G3 G' → St a p d sa n zs g1 p1 (100 * k + 48) G' → R [some (.ref p), some (.ref d), some (.int lo), some (.int n), some (.lst (zs.map D.str)), some (.ref sa), o6'] G' := fun G3 b3 hp3 G' p1 g1 r1 o6' e b4 S4 => by
          have el := congrArg List.length e
          simp only [List.length_append, List.length_cons, List.length_nil] at el
          refine hR _ _ ⟨k, lo + 1, p1, g1, _, _, rfl, by omega, rfl, ?_, ⟨S4.desk, S4.seen, S4.purse.mono (by omega), S4.chain⟩, fun q o hq eq => ?_⟩
          · have e2 : (past ++ [h] ++ [h']).head? = (past ++ [h]).head? := by cases past <;> rfl
            have e3 : (p1 ++ g1 :: r1).head? = (p1 ++ [g1]).head? := by cases p1 <;> rfl
            rw [← e3, ← e, e2, hh]
          · have qd : q ≠ d := fun z => by rw [z, gd] at eq; cases eq
            have qs : q ≠ sa := fun z => by rw [z, gsa] at eq; cases eq
            rw [b4 q hq qd qs, b3 q hq]
            exact near2 q o hq eq
        refine ⟨p, 5, 100 * k + 59, rfl, S2.purse, by decide, by decide, fun G3 r b3 hp3 r0 r1 => ite2 (fun c => ?_) (fun c => ?_)⟩
        · have S3 := S2.by b3 hp3
          obtain ⟨t3, t4⟩ := tabs (near2.call b3)
          have hp3 : AtPurse p (100 * k + 50) G3 := hp3.mono (by omega)
          exact ⟨d, n, h', past ++ [h], zs, rfl, ⟨S3.desk, hg2.ok, t3, by simp; omega⟩, hg2, hzs, by omega, t4, p, d, sa, n, zs, h', past ++ [h], 100 * k + 48, _, _, rfl, S2.by b3 hp3, by simp; omega, next G3 b3 hp3⟩
        · have hp3 : AtPurse p (100 * k + 50) G3 := hp3.mono (by omega)
          exact ⟨p, d, sa, n, zs, h', past ++ [h], 100 * k + 48, _, _, rfl, S2.by b3 hp3, by simp; omega, next G3 b3 hp3⟩
    · rintro s Gc ⟨k, lo, past, h, o2, o6, hr, hk, rfl, hh, S, near⟩
      obtain ⟨n1, n2, n3⟩ := S.ne
      refine ⟨_, seq_ref S.seen, d, sa, n, zs, h, past, past.length, by rw [List.length_map, seenL_len]; rfl, Nat.le_refl _, by omega, S.chain, S.desk, S.seen, fun G' p1 g1 r1 e hr b hd hs => ?_⟩
      have el := congrArg List.length e
      simp only [List.length_append, List.length_cons, List.length_nil] at el
      have ep : p1 = [] := List.eq_nil_of_length_eq_zero (by omega)
      subst ep
      have eg : g1 = h0 := by
        rw [e] at hh
        simpa using hh
      subst eg
      have near' : Near p G G' := fun q o hq eq => by
        have qd : q ≠ d := fun z => by rw [z, gd] at eq; cases eq
        have qs : q ≠ sa := fun z => by rw [z, gsa] at eq; cases eq
        rw [b q qd qs]
        exact near q o hq eq
      refine ⟨d, n, h0, [], rfl, hd, ok0, by decide, by decide, ?_⟩
      refine fun x hx => ⟨x, n, [], rfl, put_same, hn1, hn2, by decide, fun _ h => (List.not_mem_nil h).elim, rfl, rfl, ret_made hx fun d2 hd2 => ⟨d2, n, [], rfl, put_same, rfl, ret ?_⟩⟩
      rw [put_put]
      refine ⟨d2, n, h0, [], rfl, put_same, ok0, by decide, by decide, ?_⟩
      have dd : d ≠ d2 := fun e => by rw [← e, hd] at hd2; cases hd2
      have hdd : (put G' d2 (deskO a n h0 [])) d = some (deskO a n h0 []) := by rw [put_ne dd]; exact hd
      show (if (!decide (seenS n h0 0 = seenS n h0 0)) = true then _ else _)
      rw [decide_eq_true rfl]
      refine ite_ff ⟨d, n, _, _, _, _, _, _, rfl, hdd, ?_⟩
      · obtain ⟨G2, l, b2, _⟩ := (near'.own (q := d2) (o := deskO a n h0 []) (by
          cases eg2 : G d2 with
          | none => rfl
          | some o =>
            have hq : d2 ≠ p := fun z => by
              obtain ⟨x, y, z2, e2, _⟩ := S.purse
              have : G' p = Gc p := b p n1 n3
              rw [z, this, e2] at hd2
              cases hd2
            have := near' d2 o hq eg2
            rw [hd2] at this
            cases this)).out
        exact ⟨_, G2, Can.less l, q G2 b2⟩
/-! ### the law -/
theorem mem_ints : ∀ {n : Nat} {lo : Int} {x : D}, x ∈ intsFrom lo n → ∃ i, x = .int i ∧ lo ≤ i ∧ i < lo + n
  | 0, _, _, h => (List.not_mem_nil h).elim
  | n + 1, lo, x, h => by
    rcases List.mem_cons.mp h with rfl | h
    · exact ⟨lo, rfl, Int.le_refl _, by omega⟩
    · obtain ⟨i, e, h1, h2⟩ := mem_ints h
      exact ⟨i, e, by omega, by omega⟩
theorem ints_len : ∀ {n : Nat} {lo : Int}, (intsFrom lo n).length = n
  | 0, _ => rfl
  | n + 1, lo => congrArg Nat.succ (ints_len (n := n) (lo := lo + 1))
theorem compD_true {te : TDE} {s : SD} {i : Nat} {G0 : GD} : ∀ {xs acc : List D} {G : GD} {Q : List D → GD → Prop}, (∀ x ∈ xs, ∀ (G : GD) (R : KD), Less G0 G → (∀ G', Less G0 G' → R (.bl true) G') → te ((wipeD s [i]).set i (some x)) G R noX) →
    Less G0 G → acc.length + xs.length ≤ sizeLine → (∀ G', Less G0 G' → Q (acc ++ List.replicate xs.length (.bl true)) G') → compD (gNm i) dYes te [i] s xs acc G Q
  | [], acc, G, Q, _, l, _, q => by
    have := q G l
    simpa [compD] using this
  | x :: xs, acc, G, Q, h, l, hl, q => by
    rw [List.length_cons] at hl
    have z := h x List.mem_cons_self G (fun z G4 => acc.length < sizeLine ∧ compD (gNm i) dYes te [i] s xs (acc ++ [z]) G4 Q) l fun G' l' => ⟨by omega, compD_true (fun p hp => h p (List.mem_cons_of_mem _ hp)) l' (by simp; omega) fun G2 l2 => by
      have := q G2 l2
      simpa [List.replicate_succ] using this⟩
    show (if true = true then te _ G _ noX else compD (gNm i) dYes te [i] s xs acc G Q)
    exact ite_tt z
def sp_law (pt pl : Addr) : SpD := fun ds G Q _ => ∃ xs : List Int, ds = [.scr (xs.map D.int)] ∧ G pt = some (.tab qTold) ∧ G pl = some (.tab qRef) ∧ Q (.bl true) G
theorem ok_law (T : Txt K w mg a) (k_law_right : Knows P w K mg base "_law_right" 32 [] (sp_right pt pl)) (k_law_purse : Knows P w K mg base "_law_purse" 1 [] sp_purse) (Fu : FunD K "law" "law" (defArgs s_law) (defBody s_law) (defScope s_law) [] [] f fd) : FnD P w K mg base 34 f fd ["script"] (sp_law pt pl) := by
  refine fun_ok Fu sc_law ?_ (fun cdv A outer s H E hr => (dss_one (ds_ret (de_callB (all_okD rfl) T.all (by decide +kernel) (da_cons (de_lc rfl sc_law.nd (BlkD.mk (own := [("k", 1)]) (di_range1 T.range (da_cons (de_callB (max_okD rfl) T.max (by decide +kernel) (da_cons de_int (da_cons (de_callB (min_okD rfl) T.min (by decide +kernel) (da_cons (de_callB len_okD T.len (by decide +kernel) (da_cons (dv 0) da_nil)) (da_cons de_int da_nil))) da_nil))) da_nil)) (blkOk_by (N := N_law) (sc := defScope s_law) (own := [("k", 1)]) (by decide +kernel)) (fun _ _ _ _ _ => (dgw_name (i := 1) sc_law.nd rfl (Or.inl rfl) (by decide))) (fun _ _ _ _ _ => dts_nil) (fun _ _ _ _ _ => (de_call k_law_right (hr.mono (by decide)) takes0 (da_cons (de_call k_law_purse (hr.mono (by decide)) takes0 (da_cons (dv 0) (da_cons (dv 1) da_nil))) da_nil))))) da_nil))))) ?_
  · rintro ds G Q E ⟨xs, rfl, _⟩; rfl
  · rintro ds G Q E ⟨xs, rfl, hpt, hpl, q⟩
    refine ⟨_, rfl, ?_⟩
    rw [List.length_map]
    refine ⟨⟨by split <;> (try split) <;> omega, by split <;> (try split) <;> omega⟩, ?_⟩
    have hj : ∀ j : Int, j = (if (if (6 : Int) < (xs.length : Nat) then (6 : Int) else (xs.length : Nat)) > 2 then (if (6 : Int) < (xs.length : Nat) then (6 : Int) else (xs.length : Nat)) else 2) → j ≤ 6 := fun j e => by
      rw [e]
      split <;> (try split) <;> omega
    have hj := hj _ rfl
    generalize (if (if (6 : Int) < (xs.length : Nat) then (6 : Int) else (xs.length : Nat)) > 2 then (if (6 : Int) < (xs.length : Nat) then (6 : Int) else (xs.length : Nat)) else 2) = j at hj ⊢
    refine compD_true (G0 := G) (fun x hx G1 R l r => ?_) (.refl G) (by rw [List.length_nil, ints_len]; exact Nat.le_trans (by omega : _ ≤ 6) (by decide)) fun G' l => ?_
    · obtain ⟨i, rfl, i0, i1⟩ := mem_ints hx
      obtain ⟨k, rfl⟩ := Int.eq_ofNat_of_zero_le i0
      refine ⟨xs, k, rfl, by omega, fun p G2 hp b hpu => ⟨p, rfl, hpu, ?_, ?_, fun G3 b3 => r G3 fun q o e => ?_⟩⟩
      · have := l _ _ hpt
        rw [b pt (fun e => by rw [e, hp] at this; cases this)]
        exact this
      · have := l _ _ hpl
        rw [b pl (fun e => by rw [e, hp] at this; cases this)]
        exact this
      · have := l _ _ e
        have hq : q ≠ p := fun e => by rw [e, hp] at this; cases this
        rw [b3 q hq, b q hq]
        exact this
    · refine ⟨List.replicate (intsFrom 0 j.toNat).length true, by simp, retL l ?_⟩
      have e : (List.replicate (intsFrom 0 j.toNat).length true).all id = true := by simp
      rw [e]
      exact q
end
end TP
end
section
set_option maxRecDepth 100000
set_option maxHeartbeats 4000000
/-! The promises of all defs at the head's facts. Printed by close.py. -/
namespace TP
open PySem PySem.Spec PyProof.Rows DL Qh
open L2 hiding Room FnOk takes0
open He (ga ma fAd dflAt cT Tab Defn Dv)
def ad (K : PySem.W.Frag) : Ad := ⟨ga K "BadValue", ga K "BadName", ga K "NoAnswer", ga K "InvalidText", ga K "InvalidLength", ga K "InvalidPass", ga K "InvalidPlace", ga K "InvalidChange", ga K "InvalidWish", ga K "InvalidIndex", ga K "NotATrack", ga K "InvalidPasses", ga K "UnknownName", ga K "NothingToUndo", ga K "TooMany", ga K "Broken", ga K "Track", ga K "Part", ga K "Zone", ga K "Desk"⟩
/-- what the head has told -/
structure Cl (w : World) (K : PySem.W.Frag) (mg : Str → Option Value) (base h : Heap) : Prop where
  X : K.In h
  G : h.Ns mainGlobals mg
  c : SaysQ dsL tsL tfL exL w h K
  TB : ∀ p ∈ tfL, LamX.TabB base mg (cT K p).1 (cT K p).2
section
variable {P : Program} {w : World} {K : PySem.W.Frag} {mg : Str → Option Value} {base h : Heap}
theorem txt (X : K.In h) (G : h.Ns mainGlobals mg) (c : SaysQ dsL tsL tfL exL w h K) : Txt K w mg (ad K) where
  ArithmeticError := Qh.free X G (c.q 0)
  LookupError := Qh.free X G (c.q 1)
  TypeError := Qh.free X G (c.q 2)
  ValueError := Qh.free X G (c.q 3)
  abs := Qh.free X G (c.q 4)
  all := Qh.free X G (c.q 5)
  any := Qh.free X G (c.q 6)
  bool_ := Qh.free X G (c.q 7)
  divmod := Qh.free X G (c.q 8)
  enumerate := Qh.free X G (c.q 9)
  int_ := Qh.free X G (c.q 10)
  isinstance := Qh.free X G (c.q 11)
  len := Qh.free X G (c.q 12)
  list_ := Qh.free X G (c.q 13)
  max := Qh.free X G (c.q 14)
  min := Qh.free X G (c.q 15)
  range := Qh.free X G (c.q 16)
  repr := Qh.free X G (c.q 17)
  sorted := Qh.free X G (c.q 18)
  str_ := Qh.free X G (c.q 19)
  tuple_ := Qh.free X G (c.q 20)
  zip := Qh.free X G (c.q 21)
  cMOST_LENGTH := Qh.int_ X G (c.q 22)
  cMOST_PASSES := Qh.int_ X G (c.q 23)
  cMOST_TOUCHES := Qh.int_ X G (c.q 24)
  cMOST_GLIDE := Qh.int_ X G (c.q 25)
  cLETTERS := Qh.str_ X G (c.q 26)
  cDIGITS := Qh.str_ X G (c.q 27)
  cLONGEST_NAME := Qh.int_ X G (c.q 28)
  cLONGEST_NUMBER := Qh.int_ X G (c.q 29)
  cONE := Qh.tup X G (c.q 30)
  cZERO := Qh.tup X G (c.q 31)
  cOLD := Qh.str_ X G (c.q 32)
  cMODES := Qh.tup X G (c.q 33)
  cTAILS := Qh.tup X G (c.q 34)
  dPARTS := by
    obtain ⟨es, n, D⟩ := c.t 0
    exact Qh.dic X G D (c.q 35) (by decide +kernel)
  cPASS_PARTS := Qh.int_ X G (c.q 36)
  gBadValue := Qh.glo X G (c.q 37)
  gBadName := Qh.glo X G (c.q 38)
  gNoAnswer := Qh.glo X G (c.q 39)
  gInvalidText := Qh.glo X G (c.q 40)
  gInvalidLength := Qh.glo X G (c.q 41)
  gInvalidPass := Qh.glo X G (c.q 42)
  gInvalidPlace := Qh.glo X G (c.q 43)
  gInvalidChange := Qh.glo X G (c.q 44)
  gInvalidWish := Qh.glo X G (c.q 45)
  gInvalidIndex := Qh.glo X G (c.q 46)
  gNotATrack := Qh.glo X G (c.q 47)
  gInvalidPasses := Qh.glo X G (c.q 48)
  gUnknownName := Qh.glo X G (c.q 49)
  gNothingToUndo := Qh.glo X G (c.q 50)
  gTooMany := Qh.glo X G (c.q 51)
  gBroken := Qh.glo X G (c.q 52)
  gTrack := Qh.glo X G (c.q 53)
  kiTrack := Qh.ki (c.q 54)
  clTrack := Qh.cls (c.q 55)
  ki0Track := Qh.ki0 (c.q 56)
  nTrack_held_length := Qh.no (c.q 57)
  nTrack_held_passes := Qh.no (c.q 58)
  gPart := Qh.glo X G (c.q 59)
  kiPart := Qh.ki (c.q 60)
  clPart := Qh.cls (c.q 61)
  ki0Part := Qh.ki0 (c.q 62)
  nPart_first := Qh.no (c.q 63)
  nPart_end := Qh.no (c.q 64)
  nPart_terms := Qh.no (c.q 65)
  gZone := Qh.glo X G (c.q 66)
  kiZone := Qh.ki (c.q 67)
  clZone := Qh.cls (c.q 68)
  ki0Zone := Qh.ki0 (c.q 69)
  nZone_first := Qh.no (c.q 70)
  nZone_end := Qh.no (c.q 71)
  nZone_word := Qh.no (c.q 72)
  nZone_place := Qh.no (c.q 73)
  nZone_weight := Qh.no (c.q 74)
  gDesk := Qh.glo X G (c.q 75)
  kiDesk := Qh.ki (c.q 76)
  clDesk := Qh.cls (c.q 77)
  ki0Desk := Qh.ki0 (c.q 78)
  nDesk_held := Qh.no (c.q 79)
  nDesk_past := Qh.no (c.q 80)
theorem Cl.txt (C : Cl w K mg base h) : Txt K w mg (ad K) := TP.txt C.X C.G C.c
theorem Cl.refuser (C : Cl w K mg base h) : Refuser K mg "_law_is_refused" [.ref (ga K "BadValue"), .ref (ga K "BadName"), .ref (ga K "NoAnswer")] := by
  obtain ⟨fd, F⟩ := C.c.d 91
  exact ⟨_, fd, _, _, _, _, _, _, _, _, _, _, _, _, _, _, _, _, _, _, _, _, _, _, _, _, Qh.glo C.X C.G (C.c.q 185), F, sc_law_is_refused, .inl (by rfl), FunD.bindsN F fun _ _ _ _ _ _ us hl => match us, hl with | [_], _ => rfl, rfl, fun Z h1 h2 =>
    ⟨⟨(show PySem.Env.kindOf Z.env "BadValue" = some .globalImplicit from by unfold PySem.Env.kindOf; rw [h1]; rfl), by decide, .inl ((congrFun h2 _).trans (Qh.glo C.X C.G (C.c.q 37)))⟩, ⟨(show PySem.Env.kindOf Z.env "BadName" = some .globalImplicit from by unfold PySem.Env.kindOf; rw [h1]; rfl), by decide, .inl ((congrFun h2 _).trans (Qh.glo C.X C.G (C.c.q 38)))⟩, ⟨(show PySem.Env.kindOf Z.env "NoAnswer" = some .globalImplicit from by unfold PySem.Env.kindOf; rw [h1]; rfl), by decide, .inl ((congrFun h2 _).trans (Qh.glo C.X C.G (C.c.q 39)))⟩⟩⟩
theorem Cl.caught (C : Cl w K mg base h) : Caught K (ad K) [.ref (ga K "BadValue"), .ref (ga K "BadName"), .ref (ga K "NoAnswer")] := ⟨Qh.exs (ys := ["BadValue", "BadName", "NoAnswer"]) (C.c.q 186), Qh.exs (ys := ["BadValue", "BadName", "NoAnswer"]) (C.c.q 187), Qh.exs (ys := ["BadValue", "BadName", "NoAnswer"]) (C.c.q 188), Qh.exs (ys := ["BadValue", "BadName", "NoAnswer"]) (C.c.q 189), Qh.exs (ys := ["BadValue", "BadName", "NoAnswer"]) (C.c.q 190), Qh.exs (ys := ["BadValue", "BadName", "NoAnswer"]) (C.c.q 191)⟩
theorem kn0 (C : Cl w K mg base h) : Knows P w K mg base "_law_take" 1 [] sp_take := by
  obtain ⟨fd, F⟩ := C.c.d 0
  exact ⟨_, fd, _, _, _, Qh.glo C.X C.G (C.c.q 82), F.kp, ok_take C.txt F, FunD.bindsN F fun _ _ _ _ _ _ us hl => match us, hl with | [_, _], _ => rfl, .nil, fun _ => .nil⟩
theorem kn1 (C : Cl w K mg base h) : Knows P w K mg base "_law_one" 3 [] sp_one := by
  obtain ⟨fd, F⟩ := C.c.d 1
  exact ⟨_, fd, _, _, _, Qh.glo C.X C.G (C.c.q 83), F.kp, ok_one C.txt (kn0 C) F, FunD.bindsN F fun _ _ _ _ _ _ us hl => match us, hl with | [_, _], _ => rfl, .nil, fun _ => .nil⟩
theorem kn2 (C : Cl w K mg base h) : Knows P w K mg base "_law_names" 5 [] sp_names := by
  obtain ⟨fd, F⟩ := C.c.d 2
  exact ⟨_, fd, _, _, _, Qh.glo C.X C.G (C.c.q 84), F.kp, ok_names C.txt (kn0 C) (kn1 C) F, FunD.bindsN F fun _ _ _ _ _ _ us hl => match us, hl with | [_, _], _ => rfl, .nil, fun _ => .nil⟩
theorem kn3 (C : Cl w K mg base h) : Knows P w K mg base "is_whole" 1 [] sp_is_whole := by
  obtain ⟨fd, F⟩ := C.c.d 3
  exact ⟨_, fd, _, _, _, Qh.glo C.X C.G (C.c.q 86), F.kp, ok_is_whole C.txt F, FunD.bindsN F fun _ _ _ _ _ _ us hl => match us, hl with | [_], _ => rfl, .nil, fun _ => .nil⟩
theorem kn4 (C : Cl w K mg base h) : Knows P w K mg base "is_integer" 2 [] sp_is_integer := by
  obtain ⟨fd, F⟩ := C.c.d 4
  exact ⟨_, fd, _, _, _, Qh.glo C.X C.G (C.c.q 87), F.kp, ok_is_integer C.txt (kn3 C) F, FunD.bindsN F fun _ _ _ _ _ _ us hl => match us, hl with | [_, _, _], _ => rfl, .nil, fun _ => .nil⟩
theorem kn5 (C : Cl w K mg base h) : Knows P w K mg base "is_tuple_of" 1 [] sp_is_tuple_of := by
  obtain ⟨fd, F⟩ := C.c.d 5
  exact ⟨_, fd, _, _, _, Qh.glo C.X C.G (C.c.q 88), F.kp, ok_is_tuple_of C.txt F, FunD.bindsN F fun _ _ _ _ _ _ us hl => match us, hl with | [_, _], _ => rfl, .nil, fun _ => .nil⟩
theorem kn6 (C : Cl w K mg base h) : Knows P w K mg base "is_name" 1 [] sp_is_name := by
  obtain ⟨fd, F⟩ := C.c.d 6
  exact ⟨_, fd, _, _, _, Qh.glo C.X C.G (C.c.q 89), F.kp, ok_is_name C.txt F, FunD.bindsN F fun _ _ _ _ _ _ us hl => match us, hl with | [_], _ => rfl, .nil, fun _ => .nil⟩
theorem kn7 (C : Cl w K mg base h) : Knows P w K mg base "is_word" 1 [] sp_is_word := by
  obtain ⟨fd, F⟩ := C.c.d 7
  exact ⟨_, fd, _, _, _, Qh.glo C.X C.G (C.c.q 90), F.kp, ok_is_word C.txt F, FunD.bindsN F fun _ _ _ _ _ _ us hl => match us, hl with | [_, _], _ => rfl, .nil, fun _ => .nil⟩
theorem kn8 (C : Cl w K mg base h) : Knows P w K mg base "is_stretch" 2 [] sp_is_stretch := by
  obtain ⟨fd, F⟩ := C.c.d 8
  exact ⟨_, fd, _, _, _, Qh.glo C.X C.G (C.c.q 91), F.kp, ok_is_stretch C.txt (kn3 C) (kn5 C) F, FunD.bindsN F fun _ _ _ _ _ _ us hl => match us, hl with | [_, _, _], _ => rfl, .nil, fun _ => .nil⟩
theorem kn9 (C : Cl w K mg base h) : Knows P w K mg base "are_touches" 3 [] sp_are_touches := by
  obtain ⟨fd, F⟩ := C.c.d 9
  exact ⟨_, fd, _, _, _, Qh.glo C.X C.G (C.c.q 92), F.kp, ok_are_touches C.txt (kn8 C) F, FunD.bindsN F fun _ _ _ _ _ _ us hl => match us, hl with | [_, _, _], _ => rfl, .nil, fun _ => .nil⟩
theorem kn10 (C : Cl w K mg base h) : Knows P w K mg base "is_pass" 4 [] sp_is_pass := by
  obtain ⟨fd, F⟩ := C.c.d 10
  exact ⟨_, fd, _, _, _, Qh.glo C.X C.G (C.c.q 93), F.kp, ok_is_pass C.txt (kn5 C) (kn6 C) (kn7 C) (kn8 C) (kn9 C) (kn4 C) F, FunD.bindsN F fun _ _ _ _ _ _ us hl => match us, hl with | [_, _, _], _ => rfl, .nil, fun _ => .nil⟩
theorem kn11 (C : Cl w K mg base h) : KnowsX1 P w K mg base "InvalidLength" (ad K).InvalidLength "given" := by
  obtain ⟨fd, F⟩ := C.c.d 11
  obtain ⟨e1, e2, e3⟩ := Qh.exc (initId := "ValueError.__init__") PySem.F.excBase_ValueError PySem.F.store_ValueError (C.c.q 94)
  exact ⟨_, _, _, _, _, fd, e1, Qh.glo C.X C.G (C.c.q 41), e2, e3, init1_ok e1 (Qh.tk (C.c.q 95)) F sc_InvalidLength___init__, FunD.bindsN F fun _ _ _ _ _ _ us hl => match us, hl with | [_, _], _ => rfl⟩
theorem kn12 (C : Cl w K mg base h) : KnowsX1 P w K mg base "InvalidPasses" (ad K).InvalidPasses "index" := by
  obtain ⟨fd, F⟩ := C.c.d 12
  obtain ⟨e1, e2, e3⟩ := Qh.exc (initId := "ValueError.__init__") PySem.F.excBase_ValueError PySem.F.store_ValueError (C.c.q 96)
  exact ⟨_, _, _, _, _, fd, e1, Qh.glo C.X C.G (C.c.q 48), e2, e3, init1_ok e1 (Qh.tk (C.c.q 97)) F sc_InvalidPasses___init__, FunD.bindsN F fun _ _ _ _ _ _ us hl => match us, hl with | [_, _], _ => rfl⟩
theorem kn13 (C : Cl w K mg base h) : KnowsC P w K mg base (ad K).Track 5 [.tup []] (sp_Track_init (a := ad K)) := by
  obtain ⟨fd, F⟩ := C.c.d 13
  obtain ⟨es, hv, hb⟩ := FunD.binds1 (ps := ["self", "length", "passes"]) F 2 0 (by exact List.cons_ne_nil _ _) rfl fun _ _ _ _ _ _ _ us its hu hi => match us, its, hu, hi with | [_, _], [_], _, _ => ⟨_, rfl, rfl⟩
  exact ⟨_, fd, _, _, _, Qh.mk (C.c.q 85), ok_Track_init C.txt (kn4 C) (kn10 C) (kn11 C) (kn12 C) F, hb, hv, fun _ => .cons (Qh.dfT (C.c.q 98) _) .nil⟩
theorem kn14 (C : Cl w K mg base h) : KnowsX1 P w K mg base "NotATrack" (ad K).NotATrack "given" := by
  obtain ⟨fd, F⟩ := C.c.d 14
  obtain ⟨e1, e2, e3⟩ := Qh.exc (initId := "ValueError.__init__") PySem.F.excBase_ValueError PySem.F.store_ValueError (C.c.q 101)
  exact ⟨_, _, _, _, _, fd, e1, Qh.glo C.X C.G (C.c.q 47), e2, e3, init1_ok e1 (Qh.tk (C.c.q 102)) F sc_NotATrack___init__, FunD.bindsN F fun _ _ _ _ _ _ us hl => match us, hl with | [_, _], _ => rfl⟩
theorem kn15 (C : Cl w K mg base h) : Knows P w K mg base "check_track" 3 [] (sp_check_track (a := ad K)) := by
  obtain ⟨fd, F⟩ := C.c.d 15
  exact ⟨_, fd, _, _, _, Qh.glo C.X C.G (C.c.q 103), F.kp, ok_check_track C.txt (Qh.kit (C.c.q 100)) (kn14 C) F, FunD.bindsN F fun _ _ _ _ _ _ us hl => match us, hl with | [_], _ => rfl, .nil, fun _ => .nil⟩
theorem kn16 (C : Cl w K mg base h) : KnowsC P w K mg base (ad K).Desk 5 [] (sp_Desk_init (a := ad K)) := by
  obtain ⟨fd, F⟩ := C.c.d 16
  exact ⟨_, fd, _, _, _, Qh.mk (C.c.q 99), ok_Desk_init C.txt (kn15 C) F, FunD.bindsN F fun _ _ _ _ _ _ us hl => match us, hl with | [_, _], _ => rfl, .nil, fun _ => .nil⟩
theorem kn17 (C : Cl w K mg base h) : Knows P w K mg base "row_of" 1 [] sp_row_of := by
  obtain ⟨fd, F⟩ := C.c.d 17
  exact ⟨_, fd, _, _, _, Qh.glo C.X C.G (C.c.q 104), F.kp, ok_row_of C.txt F, FunD.bindsN F fun _ _ _ _ _ _ us hl => match us, hl with | [_], _ => rfl, .nil, fun _ => .nil⟩
theorem kn18 (C : Cl w K mg base h) : KnowsS P w K mg base (ad K).Track "__str__" 2 (sp_Track_str (a := ad K)) := by
  obtain ⟨fd, F⟩ := C.c.d 18
  exact ⟨_, fd, _, (Qh.fn_ (C.c.q 105)).1, (Qh.fn_ (C.c.q 105)).2, ok_Track_str C.txt (kn17 C) F, FunD.bindsN F fun _ _ _ _ _ _ us hl => match us, hl with | [_], _ => rfl⟩
theorem kn19 (C : Cl w K mg base h) : KnowsP P w K mg base (ad K).Desk "track" 1 (sp_Desk_track (a := ad K)) := by
  obtain ⟨fd, F⟩ := C.c.d 19
  exact ⟨_, _, fd, _, Qh.pr (C.c.q 106), ok_Desk_track C.txt F, FunD.bindsN F fun _ _ _ _ _ _ us hl => match us, hl with | [_], _ => rfl⟩
theorem kn20 (C : Cl w K mg base h) : KnowsP P w K mg base (ad K).Desk "promises" 1 (sp_Desk_promises (a := ad K)) := by
  obtain ⟨fd, F⟩ := C.c.d 20
  exact ⟨_, _, fd, _, Qh.pr (C.c.q 107), ok_Desk_promises C.txt F, FunD.bindsN F fun _ _ _ _ _ _ us hl => match us, hl with | [_], _ => rfl⟩
theorem kn21 (C : Cl w K mg base h) : KnowsP P w K mg base (ad K).Desk "changes" 1 (sp_Desk_changes (a := ad K)) := by
  obtain ⟨fd, F⟩ := C.c.d 21
  exact ⟨_, _, fd, _, Qh.pr (C.c.q 108), ok_Desk_changes C.txt F, FunD.bindsN F fun _ _ _ _ _ _ us hl => match us, hl with | [_], _ => rfl⟩
theorem kn22 (C : Cl w K mg base h) : KnowsP P w K mg base (ad K).Track "passes" 1 (sp_Track_passes (a := ad K)) := by
  obtain ⟨fd, F⟩ := C.c.d 22
  exact ⟨_, _, fd, _, Qh.pr (C.c.q 109), ok_Track_passes C.txt F, FunD.bindsN F fun _ _ _ _ _ _ us hl => match us, hl with | [_], _ => rfl⟩
theorem kn23 (C : Cl w K mg base h) : KnowsS P w K mg base (ad K).Desk "__len__" 3 (sp_Desk_len (a := ad K)) := by
  obtain ⟨fd, F⟩ := C.c.d 23
  exact ⟨_, fd, _, (Qh.fn_ (C.c.q 110)).1, (Qh.fn_ (C.c.q 110)).2, ok_Desk_len C.txt (kn22 C) F, FunD.bindsN F fun _ _ _ _ _ _ us hl => match us, hl with | [_], _ => rfl⟩
theorem kn24 (C : Cl w K mg base h) : KnowsS P w K mg base (ad K).Desk "__bool__" 1 sp_Desk_bool := by
  obtain ⟨fd, F⟩ := C.c.d 24
  exact ⟨_, fd, _, (Qh.fn_ (C.c.q 111)).1, (Qh.fn_ (C.c.q 111)).2, ok_Desk_bool F, FunD.bindsN F fun _ _ _ _ _ _ us hl => match us, hl with | [_], _ => rfl⟩
theorem kn25 (C : Cl w K mg base h) : KnowsP P w K mg base (ad K).Track "names" 1 (sp_Track_names (a := ad K)) := by
  obtain ⟨fd, F⟩ := C.c.d 25
  exact ⟨_, _, fd, _, Qh.pr (C.c.q 112), ok_Track_names C.txt F, FunD.bindsN F fun _ _ _ _ _ _ us hl => match us, hl with | [_], _ => rfl⟩
theorem kn26 (C : Cl w K mg base h) : Knows P w K mg base "_law_seen" 7 [] (sp_seen (a := ad K)) := by
  obtain ⟨fd, F⟩ := C.c.d 26
  exact ⟨_, fd, _, _, _, Qh.glo C.X C.G (C.c.q 113), F.kp, ok_seen C.txt (kn18 C) (kn19 C) (kn20 C) (kn21 C) (kn23 C) (kn24 C) (kn25 C) F, FunD.bindsN F fun _ _ _ _ _ _ us hl => match us, hl with | [_], _ => rfl, .nil, fun _ => .nil⟩
theorem kn27 (C : Cl w K mg base h) : Knows P w K mg base "_law_touches" 3 [] sp_touches := by
  obtain ⟨fd, F⟩ := C.c.d 27
  exact ⟨_, fd, _, _, _, Qh.glo C.X C.G (C.c.q 114), F.kp, ok_touches C.txt (kn0 C) F, FunD.bindsN F fun _ _ _ _ _ _ us hl => match us, hl with | [_, _, _], _ => rfl, .nil, fun _ => .nil⟩
theorem kn28 (C : Cl w K mg base h) : Knows P w K mg base "_law_pass" 5 [] sp_pass := by
  obtain ⟨fd, F⟩ := C.c.d 28
  exact ⟨_, fd, _, _, _, Qh.glo C.X C.G (C.c.q 115), F.kp, ok_pass C.txt (kn0 C) (kn1 C) (kn27 C) F, FunD.bindsN F fun _ _ _ _ _ _ us hl => match us, hl with | [_, _, _, _], _ => rfl, .nil, fun _ => .nil⟩
theorem kn29 (C : Cl w K mg base h) : Knows P w K mg base "_law_promise" 5 [] sp_promise := by
  obtain ⟨fd, F⟩ := C.c.d 29
  exact ⟨_, fd, _, _, _, Qh.glo C.X C.G (C.c.q 116), F.kp, ok_promise C.txt (kn1 C) F, FunD.bindsN F fun _ _ _ _ _ _ us hl => match us, hl with | [_, _], _ => rfl, .nil, fun _ => .nil⟩
theorem kn30 (C : Cl w K mg base h) : KnowsS P w K mg base (ad K).Track "__contains__" 3 (sp_Track_contains (a := ad K)) := by
  obtain ⟨fd, F⟩ := C.c.d 30
  exact ⟨_, fd, _, (Qh.fn_ (C.c.q 119)).1, (Qh.fn_ (C.c.q 119)).2, ok_Track_contains C.txt (kn25 C) F, FunD.bindsN F fun _ _ _ _ _ _ us hl => match us, hl with | [_, _], _ => rfl⟩
theorem kn31 (C : Cl w K mg base h) : Knows P w K mg base "told" 6 [] (sp_told ((cT K ("told", none)).2)) := by
  obtain ⟨fd, F⟩ := C.c.d 31
  exact ⟨_, fd, _, _, _, Qh.glo C.X C.G (C.c.q 120), F.kp, ok_told C.txt (C.TB _ (.head _)) (Qh.code_at F) F, FunD.bindsN F fun _ _ _ _ _ _ us hl => match us, hl with | [_], _ => rfl, .nil, fun _ => .nil⟩
theorem kn32 (C : Cl w K mg base h) : KnowsM P w K mg base (ad K).Part "at" 1 [] (sp_Part_at (a := ad K)) := by
  obtain ⟨fd, F⟩ := C.c.d 32
  exact ⟨_, fd, _, _, _, Qh.me (C.c.q 121), ok_Part_at C.txt F, FunD.bindsN F fun _ _ _ _ _ _ us hl => match us, hl with | [_, _], _ => rfl, .nil, fun _ => .nil⟩
theorem kn33 (C : Cl w K mg base h) : Knows P w K mg base "spot_of" 1 [] (sp_spot_of (a := ad K)) := by
  obtain ⟨fd, F⟩ := C.c.d 33
  exact ⟨_, fd, _, _, _, Qh.glo C.X C.G (C.c.q 122), F.kp, ok_spot_of C.txt F, FunD.bindsN F fun _ _ _ _ _ _ us hl => match us, hl with | [_, _], _ => rfl, .nil, fun _ => .nil⟩
theorem kn34 (C : Cl w K mg base h) : Knows P w K mg base "part_at" 2 [] (sp_part_at (a := ad K)) := by
  obtain ⟨fd, F⟩ := C.c.d 34
  exact ⟨_, fd, _, _, _, Qh.glo C.X C.G (C.c.q 123), F.kp, ok_part_at C.txt (kn33 C) F, FunD.bindsN F fun _ _ _ _ _ _ us hl => match us, hl with | [_, _], _ => rfl, .nil, fun _ => .nil⟩
theorem kn35 (C : Cl w K mg base h) : KnowsC P w K mg base (ad K).Part 1 [] (sp_Part_init (a := ad K)) := by
  obtain ⟨fd, F⟩ := C.c.d 35
  exact ⟨_, fd, _, _, _, Qh.mk (C.c.q 124), ok_Part_init C.txt F, FunD.bindsN F fun _ _ _ _ _ _ us hl => match us, hl with | [_, _, _, _], _ => rfl, .nil, fun _ => .nil⟩
theorem kn36 (C : Cl w K mg base h) : KnowsP P w K mg base (ad K).Track "length" 1 (sp_Track_length (a := ad K)) := by
  obtain ⟨fd, F⟩ := C.c.d 36
  exact ⟨_, _, fd, _, Qh.pr (C.c.q 125), ok_Track_length C.txt F, FunD.bindsN F fun _ _ _ _ _ _ us hl => match us, hl with | [_], _ => rfl⟩
theorem kn37 (C : Cl w K mg base h) : KnowsC P w K mg base (ad K).Zone 1 [] (sp_Zone_init (a := ad K)) := by
  obtain ⟨fd, F⟩ := C.c.d 37
  exact ⟨_, fd, _, _, _, Qh.mk (C.c.q 126), ok_Zone_init C.txt F, FunD.bindsN F fun _ _ _ _ _ _ us hl => match us, hl with | [_, _, _, _, _, _], _ => rfl, .nil, fun _ => .nil⟩
theorem kn38 (C : Cl w K mg base h) : Knows P w K mg base "common" 1 [] sp_common := by
  obtain ⟨fd, F⟩ := C.c.d 38
  exact ⟨_, fd, _, _, _, Qh.glo C.X C.G (C.c.q 127), F.kp, ok_common C.txt F, FunD.bindsN F fun _ _ _ _ _ _ us hl => match us, hl with | [_, _], _ => rfl, .nil, fun _ => .nil⟩
theorem kn39 (C : Cl w K mg base h) : Knows P w K mg base "lowest" 2 [] sp_lowest := by
  obtain ⟨fd, F⟩ := C.c.d 39
  exact ⟨_, fd, _, _, _, Qh.glo C.X C.G (C.c.q 128), F.kp, ok_lowest C.txt (kn38 C) F, FunD.bindsN F fun _ _ _ _ _ _ us hl => match us, hl with | [_, _], _ => rfl, .nil, fun _ => .nil⟩
theorem kn40 (C : Cl w K mg base h) : Knows P w K mg base "glide_zones" 3 [] (sp_glide_zones (a := ad K)) := by
  obtain ⟨fd, F⟩ := C.c.d 40
  exact ⟨_, fd, _, _, _, Qh.glo C.X C.G (C.c.q 129), F.kp, ok_glide_zones C.txt (kn39 C) (kn37 C) F, FunD.bindsN F fun _ _ _ _ _ _ us hl => match us, hl with | [_, _, _], _ => rfl, .nil, fun _ => .nil⟩
theorem kn41 (C : Cl w K mg base h) : Knows P w K mg base "zones_of" 5 [] (sp_zones_of (a := ad K)) := by
  obtain ⟨fd, F⟩ := C.c.d 41
  exact ⟨_, fd, _, _, _, Qh.glo C.X C.G (C.c.q 130), F.kp, ok_zones_of C.txt (kn37 C) (kn40 C) F, FunD.bindsN F fun _ _ _ _ _ _ us hl => match us, hl with | [_, _], _ => rfl, .nil, fun _ => .nil⟩
theorem kn42 (C : Cl w K mg base h) : KnowsM P w K mg base (ad K).Part "cut" 3 [] (sp_Part_cut (a := ad K)) := by
  obtain ⟨fd, F⟩ := C.c.d 42
  exact ⟨_, fd, _, _, _, Qh.me (C.c.q 131), ok_Part_cut C.txt (kn35 C) F, FunD.bindsN F fun _ _ _ _ _ _ us hl => match us, hl with | [_, _, _], _ => rfl, .nil, fun _ => .nil⟩
theorem kn43 (C : Cl w K mg base h) : Knows P w K mg base "between" 5 [] (sp_between (a := ad K)) := by
  obtain ⟨fd, F⟩ := C.c.d 43
  exact ⟨_, fd, _, _, _, Qh.glo C.X C.G (C.c.q 132), F.kp, ok_between C.txt (kn33 C) (kn42 C) F, FunD.bindsN F fun _ _ _ _ _ _ us hl => match us, hl with | [_, _, _], _ => rfl, .nil, fun _ => .nil⟩
theorem kn44 (C : Cl w K mg base h) : Knows P w K mg base "minus" 3 [] sp_minus := by
  obtain ⟨fd, F⟩ := C.c.d 44
  exact ⟨_, fd, _, _, _, Qh.glo C.X C.G (C.c.q 133), F.kp, ok_minus C.txt (kn39 C) F, FunD.bindsN F fun _ _ _ _ _ _ us hl => match us, hl with | [_, _], _ => rfl, .nil, fun _ => .nil⟩
theorem kn45 (C : Cl w K mg base h) : Knows P w K mg base "times" 3 [] sp_times := by
  obtain ⟨fd, F⟩ := C.c.d 45
  exact ⟨_, fd, _, _, _, Qh.glo C.X C.G (C.c.q 134), F.kp, ok_times C.txt (kn39 C) F, FunD.bindsN F fun _ _ _ _ _ _ us hl => match us, hl with | [_, _], _ => rfl, .nil, fun _ => .nil⟩
theorem kn46 (C : Cl w K mg base h) : Knows P w K mg base "behind_zone" 7 [] (sp_behind_zone (a := ad K)) := by
  obtain ⟨fd, F⟩ := C.c.d 46
  exact ⟨_, fd, _, _, _, Qh.glo C.X C.G (C.c.q 135), F.kp, ok_behind_zone C.txt (kn35 C) (kn32 C) (kn34 C) (kn43 C) (kn44 C) (kn45 C) F, FunD.bindsN F fun _ _ _ _ _ _ us hl => match us, hl with | [_, _, _], _ => rfl, .nil, fun _ => .nil⟩
theorem kn47 (C : Cl w K mg base h) : Knows P w K mg base "behind" 9 [] (sp_behind (a := ad K)) := by
  obtain ⟨fd, F⟩ := C.c.d 47
  exact ⟨_, fd, _, _, _, Qh.glo C.X C.G (C.c.q 136), F.kp, ok_behind C.txt (kn41 C) (kn43 C) (kn46 C) F, FunD.bindsN F fun _ _ _ _ _ _ us hl => match us, hl with | [_, _, _], _ => rfl, .nil, fun _ => .nil⟩
theorem kn48 (C : Cl w K mg base h) : Knows P w K mg base "parts_of" 11 [] (sp_parts_of (a := ad K)) := by
  obtain ⟨fd, F⟩ := C.c.d 48
  exact ⟨_, fd, _, _, _, Qh.glo C.X C.G (C.c.q 137), F.kp, ok_parts_of C.txt (kn35 C) (kn36 C) (kn22 C) (kn47 C) (kn43 C) F, FunD.bindsN F fun _ _ _ _ _ _ us hl => match us, hl with | [_], _ => rfl, .nil, fun _ => .nil⟩
theorem kn49 (C : Cl w K mg base h) : Knows P w K mg base "form_of" 13 [] (sp_form_of (a := ad K) ((cT K ("told", none)).2)) := by
  obtain ⟨fd, F⟩ := C.c.d 49
  exact ⟨_, fd, _, _, _, Qh.glo C.X C.G (C.c.q 138), F.kp, ok_form_of C.txt (kn31 C) (kn32 C) (kn34 C) (kn48 C) F, FunD.bindsN F fun _ _ _ _ _ _ us hl => match us, hl with | [_, _], _ => rfl, .nil, fun _ => .nil⟩
theorem kn50 (C : Cl w K mg base h) : Knows P w K mg base "single" 3 [] (sp_single (a := ad K)) := by
  obtain ⟨fd, F⟩ := C.c.d 50
  exact ⟨_, fd, _, _, _, Qh.glo C.X C.G (C.c.q 139), F.kp, ok_single C.txt (kn35 C) (kn32 C) F, FunD.bindsN F fun _ _ _ _ _ _ us hl => match us, hl with | [_], _ => rfl, .nil, fun _ => .nil⟩
theorem kn51 (C : Cl w K mg base h) : Knows P w K mg base "other_tick" 15 [] (sp_other_tick (a := ad K) ((cT K ("told", none)).2)) := by
  obtain ⟨fd, F⟩ := C.c.d 51
  exact ⟨_, fd, _, _, _, Qh.glo C.X C.G (C.c.q 140), F.kp, ok_other_tick C.txt (kn49 C) (kn48 C) (kn50 C) (kn42 C) F, FunD.bindsN F fun _ _ _ _ _ _ us hl => match us, hl with | [_, _, _], _ => rfl, .nil, fun _ => .nil⟩
theorem kn52 (C : Cl w K mg base h) : Knows P w K mg base "is_more" 1 [] sp_is_more := by
  obtain ⟨fd, F⟩ := C.c.d 52
  exact ⟨_, fd, _, _, _, Qh.glo C.X C.G (C.c.q 141), F.kp, ok_is_more C.txt F, FunD.bindsN F fun _ _ _ _ _ _ us hl => match us, hl with | [_, _], _ => rfl, .nil, fun _ => .nil⟩
theorem kn53 (C : Cl w K mg base h) : Knows P w K mg base "difference" 5 [] sp_difference := by
  obtain ⟨fd, F⟩ := C.c.d 53
  exact ⟨_, fd, _, _, _, Qh.glo C.X C.G (C.c.q 142), F.kp, ok_difference C.txt (kn52 C) (kn44 C) F, FunD.bindsN F fun _ _ _ _ _ _ us hl => match us, hl with | [_, _], _ => rfl, .nil, fun _ => .nil⟩
theorem kn54 (C : Cl w K mg base h) : Knows P w K mg base "steps_of" 13 [] (sp_steps_of (a := ad K)) := by
  obtain ⟨fd, F⟩ := C.c.d 54
  exact ⟨_, fd, _, _, _, Qh.glo C.X C.G (C.c.q 143), F.kp, ok_steps_of C.txt (kn48 C) (kn53 C) F, FunD.bindsN F fun _ _ _ _ _ _ us hl => match us, hl with | [_], _ => rfl, .nil, fun _ => .nil⟩
theorem kn55 (C : Cl w K mg base h) : Knows P w K mg base "sudden_of" 15 [] (sp_sudden_of (a := ad K)) := by
  obtain ⟨fd, F⟩ := C.c.d 55
  exact ⟨_, fd, _, _, _, Qh.glo C.X C.G (C.c.q 144), F.kp, ok_sudden_of C.txt (kn54 C) (kn52 C) F, FunD.bindsN F fun _ _ _ _ _ _ us hl => match us, hl with | [_, _], _ => rfl, .nil, fun _ => .nil⟩
theorem kn56 (C : Cl w K mg base h) : Knows P w K mg base "does_hold" 17 [] (sp_does_hold (a := ad K) ((cT K ("told", none)).2)) := by
  obtain ⟨fd, F⟩ := C.c.d 56
  exact ⟨_, fd, _, _, _, Qh.glo C.X C.G (C.c.q 145), F.kp, ok_does_hold C.txt (kn30 C) (kn51 C) (kn55 C) F, FunD.bindsN F fun _ _ _ _ _ _ us hl => match us, hl with | [_, _], _ => rfl, .nil, fun _ => .nil⟩
theorem kn57 (C : Cl w K mg base h) : KnowsX1 P w K mg base "Broken" (ad K).Broken "index" := by
  obtain ⟨fd, F⟩ := C.c.d 57
  obtain ⟨e1, e2, e3⟩ := Qh.exc (initId := "ArithmeticError.__init__") PySem.F.excBase_ArithmeticError PySem.F.store_ArithmeticError (C.c.q 146)
  exact ⟨_, _, _, _, _, fd, e1, Qh.glo C.X C.G (C.c.q 52), e2, e3, init1_ok e1 (Qh.tk (C.c.q 147)) F sc_Broken___init__, FunD.bindsN F fun _ _ _ _ _ _ us hl => match us, hl with | [_, _], _ => rfl⟩
theorem kn58 (C : Cl w K mg base h) : KnowsM P w K mg base (ad K).Desk "become" 19 [] (sp_Desk_become (a := ad K) ((cT K ("told", none)).2)) := by
  obtain ⟨fd, F⟩ := C.c.d 58
  exact ⟨_, fd, _, _, _, Qh.me (C.c.q 118), ok_Desk_become C.txt (kn56 C) (kn57 C) F, FunD.bindsN F fun _ _ _ _ _ _ us hl => match us, hl with | [_, _, _], _ => rfl, .nil, fun _ => .nil⟩
theorem kn59 (C : Cl w K mg base h) : KnowsX1 P w K mg base "InvalidPass" (ad K).InvalidPass "given" := by
  obtain ⟨fd, F⟩ := C.c.d 59
  obtain ⟨e1, e2, e3⟩ := Qh.exc (initId := "ValueError.__init__") PySem.F.excBase_ValueError PySem.F.store_ValueError (C.c.q 149)
  exact ⟨_, _, _, _, _, fd, e1, Qh.glo C.X C.G (C.c.q 42), e2, e3, init1_ok e1 (Qh.tk (C.c.q 150)) F sc_InvalidPass___init__, FunD.bindsN F fun _ _ _ _ _ _ us hl => match us, hl with | [_, _], _ => rfl⟩
theorem kn60 (C : Cl w K mg base h) : KnowsX1 P w K mg base "InvalidPlace" (ad K).InvalidPlace "given" := by
  obtain ⟨fd, F⟩ := C.c.d 60
  obtain ⟨e1, e2, e3⟩ := Qh.exc (initId := "ValueError.__init__") PySem.F.excBase_ValueError PySem.F.store_ValueError (C.c.q 151)
  exact ⟨_, _, _, _, _, fd, e1, Qh.glo C.X C.G (C.c.q 43), e2, e3, init1_ok e1 (Qh.tk (C.c.q 152)) F sc_InvalidPlace___init__, FunD.bindsN F fun _ _ _ _ _ _ us hl => match us, hl with | [_, _], _ => rfl⟩
theorem kn61 (C : Cl w K mg base h) : KnowsX1 P w K mg base "TooMany" (ad K).TooMany "most" := by
  obtain ⟨fd, F⟩ := C.c.d 61
  obtain ⟨e1, e2, e3⟩ := Qh.exc (initId := "ArithmeticError.__init__") PySem.F.excBase_ArithmeticError PySem.F.store_ArithmeticError (C.c.q 153)
  exact ⟨_, _, _, _, _, fd, e1, Qh.glo C.X C.G (C.c.q 51), e2, e3, init1_ok e1 (Qh.tk (C.c.q 154)) F sc_TooMany___init__, FunD.bindsN F fun _ _ _ _ _ _ us hl => match us, hl with | [_, _], _ => rfl⟩
theorem kn62 (C : Cl w K mg base h) : KnowsC P w K mg base (ad K).Track 5 [] (sp_Track_init (a := ad K)) := by
  obtain ⟨fd, F⟩ := C.c.d 13
  obtain ⟨es, hv, hb⟩ := FunD.binds1 (ps := ["self", "length", "passes"]) F 3 1 (by exact List.cons_ne_nil _ _) rfl fun _ _ _ _ _ _ _ us its hu hi => match us, its, hu, hi with | [_, _, _], [_], _, _ => ⟨_, rfl, rfl⟩
  cases hv
  exact ⟨_, fd, _, _, _, Qh.mk (C.c.q 85), ok_Track_init C.txt (kn4 C) (kn10 C) (kn11 C) (kn12 C) F, hb, .nil, fun _ => .nil⟩
theorem kn63 (C : Cl w K mg base h) : KnowsM P w K mg base (ad K).Track "put" 7 [] (sp_Track_put (a := ad K)) := by
  obtain ⟨fd, F⟩ := C.c.d 62
  obtain ⟨es, hv, hb⟩ := FunD.binds1 (ps := ["self", "one_pass", "place"]) F 3 1 (by exact List.cons_ne_nil _ _) rfl fun _ _ _ _ _ _ _ us its hu hi => match us, its, hu, hi with | [_, _, _], [_], _, _ => ⟨_, rfl, rfl⟩
  cases hv
  exact ⟨_, fd, _, _, _, Qh.me (C.c.q 148), ok_Track_put C.txt (kn10 C) (kn4 C) (kn25 C) (kn59 C) (kn60 C) (kn61 C) (kn62 C) F, hb, .nil, fun _ => .nil⟩
theorem kn64 (C : Cl w K mg base h) : KnowsM P w K mg base (ad K).Desk "put" 21 [] (sp_Desk_put (a := ad K) ((cT K ("told", none)).2)) := by
  obtain ⟨fd, F⟩ := C.c.d 63
  obtain ⟨es, hv, hb⟩ := FunD.binds1 (ps := ["self", "one_pass", "place"]) F 3 1 (by exact List.cons_ne_nil _ _) rfl fun _ _ _ _ _ _ _ us its hu hi => match us, its, hu, hi with | [_, _, _], [_], _, _ => ⟨_, rfl, rfl⟩
  cases hv
  exact ⟨_, fd, _, _, _, Qh.me (C.c.q 117), ok_Desk_put C.txt (kn58 C) (kn63 C) F, hb, .nil, fun _ => .nil⟩
theorem kn65 (C : Cl w K mg base h) : KnowsP P w K mg base (ad K).Track "names" 1 (sp_Track_namesN (a := ad K)) := by
  obtain ⟨fd, F⟩ := C.c.d 25
  exact ⟨_, _, fd, _, Qh.pr (C.c.q 112), ok_Track_namesN C.txt F, FunD.bindsN F fun _ _ _ _ _ _ us hl => match us, hl with | [_], _ => rfl⟩
theorem kn66 (C : Cl w K mg base h) : KnowsX1 P w K mg base "UnknownName" (ad K).UnknownName "given" := by
  obtain ⟨fd, F⟩ := C.c.d 64
  obtain ⟨e1, e2, e3⟩ := Qh.exc (initId := "LookupError.__init__") PySem.F.excBase_LookupError PySem.F.store_LookupError (C.c.q 157)
  exact ⟨_, _, _, _, _, fd, e1, Qh.glo C.X C.G (C.c.q 49), e2, e3, init1_ok e1 (Qh.tk (C.c.q 158)) F sc_UnknownName___init__, FunD.bindsN F fun _ _ _ _ _ _ us hl => match us, hl with | [_, _], _ => rfl⟩
theorem kn67 (C : Cl w K mg base h) : Knows P w K mg base "index_of" 5 [] (sp_index_of (a := ad K)) := by
  obtain ⟨fd, F⟩ := C.c.d 65
  exact ⟨_, fd, _, _, _, Qh.glo C.X C.G (C.c.q 159), F.kp, ok_index_of C.txt (kn30 C) (kn65 C) (kn66 C) F, FunD.bindsN F fun _ _ _ _ _ _ us hl => match us, hl with | [_, _], _ => rfl, .nil, fun _ => .nil⟩
theorem kn68 (C : Cl w K mg base h) : KnowsM P w K mg base (ad K).Track "without" 7 [] (sp_Track_without (a := ad K)) := by
  obtain ⟨fd, F⟩ := C.c.d 66
  exact ⟨_, fd, _, _, _, Qh.me (C.c.q 156), ok_Track_without C.txt (kn67 C) (kn62 C) F, FunD.bindsN F fun _ _ _ _ _ _ us hl => match us, hl with | [_, _], _ => rfl, .nil, fun _ => .nil⟩
theorem kn69 (C : Cl w K mg base h) : KnowsM P w K mg base (ad K).Desk "take" 21 [] (sp_Desk_take (a := ad K) ((cT K ("told", none)).2)) := by
  obtain ⟨fd, F⟩ := C.c.d 67
  exact ⟨_, fd, _, _, _, Qh.me (C.c.q 155), ok_Desk_take C.txt (kn58 C) (kn68 C) F, FunD.bindsN F fun _ _ _ _ _ _ us hl => match us, hl with | [_, _], _ => rfl, .nil, fun _ => .nil⟩
theorem kn70 (C : Cl w K mg base h) : KnowsM P w K mg base (ad K).Track "moved" 9 [] (sp_Track_moved (a := ad K)) := by
  obtain ⟨fd, F⟩ := C.c.d 68
  exact ⟨_, fd, _, _, _, Qh.me (C.c.q 161), ok_Track_moved C.txt (kn67 C) (kn4 C) (kn60 C) (kn68 C) (kn63 C) F, FunD.bindsN F fun _ _ _ _ _ _ us hl => match us, hl with | [_, _, _], _ => rfl, .nil, fun _ => .nil⟩
theorem kn71 (C : Cl w K mg base h) : KnowsM P w K mg base (ad K).Desk "move" 21 [] (sp_Desk_move (a := ad K) ((cT K ("told", none)).2)) := by
  obtain ⟨fd, F⟩ := C.c.d 69
  exact ⟨_, fd, _, _, _, Qh.me (C.c.q 160), ok_Desk_move C.txt (kn58 C) (kn70 C) F, FunD.bindsN F fun _ _ _ _ _ _ us hl => match us, hl with | [_, _, _], _ => rfl, .nil, fun _ => .nil⟩
theorem kn72 (C : Cl w K mg base h) : Knows P w K mg base "is_change" 5 [] (sp_is_change (a := ad K)) := by
  obtain ⟨fd, F⟩ := C.c.d 70
  exact ⟨_, fd, _, _, _, Qh.glo C.X C.G (C.c.q 164), F.kp, ok_is_change C.txt (kn5 C) (kn30 C) (kn7 C) F, FunD.bindsN F fun _ _ _ _ _ _ us hl => match us, hl with | [_, _], _ => rfl, .nil, fun _ => .nil⟩
theorem kn73 (C : Cl w K mg base h) : Knows P w K mg base "with_changes" 7 [] (sp_with_changes (a := ad K)) := by
  obtain ⟨fd, F⟩ := C.c.d 71
  exact ⟨_, fd, _, _, _, Qh.glo C.X C.G (C.c.q 165), F.kp, ok_with_changes C.txt (kn22 C) (kn65 C) (kn36 C) (kn62 C) F, FunD.bindsN F fun _ _ _ _ _ _ us hl => match us, hl with | [_, _], _ => rfl, .nil, fun _ => .nil⟩
theorem kn74 (C : Cl w K mg base h) : KnowsX1 P w K mg base "InvalidChange" (ad K).InvalidChange "given" := by
  obtain ⟨fd, F⟩ := C.c.d 72
  obtain ⟨e1, e2, e3⟩ := Qh.exc (initId := "ValueError.__init__") PySem.F.excBase_ValueError PySem.F.store_ValueError (C.c.q 166)
  exact ⟨_, _, _, _, _, fd, e1, Qh.glo C.X C.G (C.c.q 44), e2, e3, init1_ok e1 (Qh.tk (C.c.q 167)) F sc_InvalidChange___init__, FunD.bindsN F fun _ _ _ _ _ _ us hl => match us, hl with | [_, _], _ => rfl⟩
theorem kn75 (C : Cl w K mg base h) : KnowsM P w K mg base (ad K).Track "changed" 9 [] (sp_Track_changed (a := ad K)) := by
  obtain ⟨fd, F⟩ := C.c.d 73
  exact ⟨_, fd, _, _, _, Qh.me (C.c.q 163), ok_Track_changed C.txt (kn72 C) (kn73 C) (kn74 C) F, FunD.bindsN F fun _ _ _ _ _ _ us hl => match us, hl with | [_, _], _ => rfl, .nil, fun _ => .nil⟩
theorem kn76 (C : Cl w K mg base h) : KnowsM P w K mg base (ad K).Desk "change" 21 [] (sp_Desk_change (a := ad K) ((cT K ("told", none)).2)) := by
  obtain ⟨fd, F⟩ := C.c.d 74
  exact ⟨_, fd, _, _, _, Qh.me (C.c.q 162), ok_Desk_change C.txt (kn58 C) (kn75 C) F, FunD.bindsN F fun _ _ _ _ _ _ us hl => match us, hl with | [_, _], _ => rfl, .nil, fun _ => .nil⟩
theorem kn77 (C : Cl w K mg base h) : KnowsX1 P w K mg base "InvalidIndex" (ad K).InvalidIndex "given" := by
  obtain ⟨fd, F⟩ := C.c.d 75
  obtain ⟨e1, e2, e3⟩ := Qh.exc (initId := "ValueError.__init__") PySem.F.excBase_ValueError PySem.F.store_ValueError (C.c.q 169)
  exact ⟨_, _, _, _, _, fd, e1, Qh.glo C.X C.G (C.c.q 46), e2, e3, init1_ok e1 (Qh.tk (C.c.q 170)) F sc_InvalidIndex___init__, FunD.bindsN F fun _ _ _ _ _ _ us hl => match us, hl with | [_, _], _ => rfl⟩
theorem kn78 (C : Cl w K mg base h) : KnowsM P w K mg base (ad K).Desk "lift" 21 [] (sp_Desk_lift (a := ad K) ((cT K ("told", none)).2)) := by
  obtain ⟨fd, F⟩ := C.c.d 76
  exact ⟨_, fd, _, _, _, Qh.me (C.c.q 168), ok_Desk_lift C.txt (kn58 C) (kn4 C) (kn77 C) F, FunD.bindsN F fun _ _ _ _ _ _ us hl => match us, hl with | [_, _], _ => rfl, .nil, fun _ => .nil⟩
theorem kn79 (C : Cl w K mg base h) : Knows P w K mg base "has_words" 1 [] sp_has_words := by
  obtain ⟨fd, F⟩ := C.c.d 77
  exact ⟨_, fd, _, _, _, Qh.glo C.X C.G (C.c.q 172), F.kp, ok_has_words C.txt F, FunD.bindsN F fun _ _ _ _ _ _ us hl => match us, hl with | [_, _, _], _ => rfl, .nil, fun _ => .nil⟩
theorem kn80 (C : Cl w K mg base h) : Knows P w K mg base "is_limit" 2 [] sp_is_limit := by
  obtain ⟨fd, F⟩ := C.c.d 78
  exact ⟨_, fd, _, _, _, Qh.glo C.X C.G (C.c.q 173), F.kp, ok_is_limit C.txt (kn3 C) (kn5 C) (kn38 C) F, FunD.bindsN F fun _ _ _ _ _ _ us hl => match us, hl with | [_], _ => rfl, .nil, fun _ => .nil⟩
theorem kn81 (C : Cl w K mg base h) : Knows P w K mg base "is_wish" 4 [] sp_is_wish := by
  obtain ⟨fd, F⟩ := C.c.d 79
  exact ⟨_, fd, _, _, _, Qh.glo C.X C.G (C.c.q 174), F.kp, ok_is_wish C.txt (kn79 C) (kn6 C) (kn8 C) (kn80 C) F, FunD.bindsN F fun _ _ _ _ _ _ us hl => match us, hl with | [_, _], _ => rfl, .nil, fun _ => .nil⟩
theorem kn82 (C : Cl w K mg base h) : KnowsX1 P w K mg base "InvalidWish" (ad K).InvalidWish "given" := by
  obtain ⟨fd, F⟩ := C.c.d 80
  obtain ⟨e1, e2, e3⟩ := Qh.exc (initId := "ValueError.__init__") PySem.F.excBase_ValueError PySem.F.store_ValueError (C.c.q 175)
  exact ⟨_, _, _, _, _, fd, e1, Qh.glo C.X C.G (C.c.q 45), e2, e3, init1_ok e1 (Qh.tk (C.c.q 176)) F sc_InvalidWish___init__, FunD.bindsN F fun _ _ _ _ _ _ us hl => match us, hl with | [_, _], _ => rfl⟩
theorem kn83 (C : Cl w K mg base h) : Knows P w K mg base "check_wish" 6 [] (sp_check_wish (a := ad K)) := by
  obtain ⟨fd, F⟩ := C.c.d 81
  exact ⟨_, fd, _, _, _, Qh.glo C.X C.G (C.c.q 177), F.kp, ok_check_wish C.txt (kn81 C) (kn36 C) (kn82 C) F, FunD.bindsN F fun _ _ _ _ _ _ us hl => match us, hl with | [_, _], _ => rfl, .nil, fun _ => .nil⟩
theorem kn84 (C : Cl w K mg base h) : KnowsM P w K mg base (ad K).Desk "promise" 21 [] (sp_Desk_promise (a := ad K) ((cT K ("told", none)).2)) := by
  obtain ⟨fd, F⟩ := C.c.d 82
  exact ⟨_, fd, _, _, _, Qh.me (C.c.q 171), ok_Desk_promise C.txt (kn58 C) (kn83 C) F, FunD.bindsN F fun _ _ _ _ _ _ us hl => match us, hl with | [_, _], _ => rfl, .nil, fun _ => .nil⟩
theorem kn85 (C : Cl w K mg base h) : Knows P w K mg base "_law_step" 23 [] (sp_step (a := ad K) ((cT K ("told", none)).2)) := by
  obtain ⟨fd, F⟩ := C.c.d 83
  exact ⟨_, fd, _, _, _, Qh.glo C.X C.G (C.c.q 178), F.kp, ok_step C.txt (kn0 C) (kn1 C) (kn28 C) (kn29 C) (kn19 C) (kn20 C) (kn25 C) (kn64 C) (kn69 C) (kn71 C) (kn76 C) (kn78 C) (kn84 C) F, FunD.bindsN F fun _ _ _ _ _ _ us hl => match us, hl with | [_, _, _, _], _ => rfl, .nil, fun _ => .nil⟩
theorem kn86 (C : Cl w K mg base h) : KnowsPC P w K mg base (ad K).Desk "changes" 1 (sp_Desk_changes (a := ad K)) := by
  obtain ⟨fd, F⟩ := C.c.d 21
  exact ⟨_, _, fd, _, Qh.pr (C.c.q 108), okc_Desk_changes C.txt F, FunD.bindsN F fun _ _ _ _ _ _ us hl => match us, hl with | [_], _ => rfl⟩
theorem kn87 (C : Cl w K mg base h) : KnowsM P w K mg base (ad K).Desk "put" 21 [.non] (sp_Desk_put (a := ad K) ((cT K ("told", none)).2)) := by
  obtain ⟨fd, F⟩ := C.c.d 63
  obtain ⟨es, hv, hb⟩ := FunD.binds1 (ps := ["self", "one_pass", "place"]) F 2 0 (by exact List.cons_ne_nil _ _) rfl fun _ _ _ _ _ _ _ us its hu hi => match us, its, hu, hi with | [_, _], [_], _, _ => ⟨_, rfl, rfl⟩
  exact ⟨_, fd, _, _, _, Qh.me (C.c.q 117), ok_Desk_put C.txt (kn58 C) (kn63 C) F, hb, hv, fun _ => .cons (.non) .nil⟩
theorem kn88 (C : Cl w K mg base h) : Knows P w K mg base "_law_refused_right" 30 [] (sp_refused (a := ad K) ((cT K ("told", none)).2) ((cT K ("_law_refused_right", none)).2)) := by
  obtain ⟨fd, F⟩ := C.c.d 84
  exact ⟨_, fd, _, _, _, Qh.glo C.X C.G (C.c.q 179), F.kp, ok_refused C.txt (C.TB _ (.tail _ (.head _))) (Qh.code_at F) C.refuser C.caught (kn26 C) (kn20 C) (kn87 C) (kn69 C) (kn71 C) (kn76 C) (kn78 C) (kn84 C) F, FunD.bindsN F fun _ _ _ _ _ _ us hl => match us, hl with | [_, _], _ => rfl, .nil, fun _ => .nil⟩
theorem kn89 (C : Cl w K mg base h) : KnowsX0 P w K mg base "NothingToUndo" (ad K).NothingToUndo := by
  obtain ⟨fd, F⟩ := C.c.d 85
  obtain ⟨e1, e2, e3⟩ := Qh.exc (initId := "ArithmeticError.__init__") PySem.F.excBase_ArithmeticError PySem.F.store_ArithmeticError (C.c.q 181)
  exact ⟨_, _, _, _, _, fd, e1, Qh.glo C.X C.G (C.c.q 50), e2, e3, init0_ok F sc_NothingToUndo___init__, FunD.bindsN F fun _ _ _ _ _ _ us hl => match us, hl with | [_], _ => rfl⟩
theorem kn90 (C : Cl w K mg base h) : KnowsM P w K mg base (ad K).Desk "undo" 3 [] (sp_Desk_undo (a := ad K)) := by
  obtain ⟨fd, F⟩ := C.c.d 86
  exact ⟨_, fd, _, _, _, Qh.me (C.c.q 180), ok_Desk_undo C.txt (kn89 C) F, FunD.bindsN F fun _ _ _ _ _ _ us hl => match us, hl with | [_], _ => rfl, .nil, fun _ => .nil⟩
theorem kn91 (C : Cl w K mg base h) : Knows P w K mg base "_law_back_right" 9 [] (sp_back (a := ad K)) := by
  obtain ⟨fd, F⟩ := C.c.d 87
  exact ⟨_, fd, _, _, _, Qh.glo C.X C.G (C.c.q 182), F.kp, ok_back C.txt (kn26 C) (kn90 C) F, FunD.bindsN F fun _ _ _ _ _ _ us hl => match us, hl with | [_, _, _], _ => rfl, .nil, fun _ => .nil⟩
theorem kn92 (C : Cl w K mg base h) : Knows P w K mg base "_law_right" 32 [] (sp_right ((cT K ("told", none)).2) ((cT K ("_law_refused_right", none)).2)) := by
  obtain ⟨fd, F⟩ := C.c.d 88
  exact ⟨_, fd, _, _, _, Qh.glo C.X C.G (C.c.q 183), F.kp, ok_right C.txt (Qh.exm (C.c.q 81)) (kn0 C) (kn1 C) (kn2 C) (kn13 C) (kn16 C) (kn26 C) (kn85 C) (kn21 C) (kn86 C) (kn88 C) (kn91 C) (kn90 C) F, FunD.bindsN F fun _ _ _ _ _ _ us hl => match us, hl with | [_], _ => rfl, .nil, fun _ => .nil⟩
theorem kn93 (C : Cl w K mg base h) : Knows P w K mg base "_law_purse" 1 [] sp_purse := by
  obtain ⟨fd, F⟩ := C.c.d 89
  exact ⟨_, fd, _, _, _, Qh.glo C.X C.G (C.c.q 184), F.kp, ok_purse C.txt F, FunD.bindsN F fun _ _ _ _ _ _ us hl => match us, hl with | [_, _], _ => rfl, .nil, fun _ => .nil⟩
theorem law_fd (c : SaysQ dsL tsL tfL exL w h K) : ∃ fd, FunD K "law" "law" (defArgs s_law) (defBody s_law) (defScope s_law) [] [] (fAd K ("law", none)) fd := c.d 90
theorem law_ok (C : Cl w K mg base h) {fd : FuncData} (F : FunD K "law" "law" (defArgs s_law) (defBody s_law) (defScope s_law) [] [] (fAd K ("law", none)) fd) : FnD P w K mg base 34 (fAd K ("law", none)) fd ["script"] (sp_law ((cT K ("told", none)).2) ((cT K ("_law_refused_right", none)).2)) :=
  ok_law C.txt (kn92 C) (kn93 C) F
theorem tabs_ne10 (c : SaysQ dsL tsL tfL exL w h K) : (cT K ("_law_refused_right", none)).2 ≠ (cT K ("told", none)).2 := Qh.ne (c.q 192)
theorem Cl.glaw (X : K.In h) (G : h.Ns mainGlobals mg) (c : SaysQ dsL tsL tfL exL w h K) : mg "law" = some (.ref (fAd K ("law", none))) := Qh.glo X G (c.q 193)
end
end TP
end
section
set_option maxRecDepth 100000
set_option maxHeartbeats 0
/-! The end. Printed by close.py. -/
namespace TP
open PySem PySem.Spec PyProof.Rows DL Qh
open L2 hiding Room FnOk takes0
open He (ga ma fAd dflAt cT Tab Defn Dv)
abbrev dLaw : PySem.DefRec := HandSHeadRun.topDef R.prog 112
theorem facts {w : World} {K : PySem.W.Frag} {h : Heap} {mg : Str → Option Value} {fa : Addr} (l : PySem.W.OpenLaw) (X : K.In h) (G : h.Ns mainGlobals mg) (hfa : mg ("law" : Str) = some (.ref fa)) (c : SaysQ dsL tsL tfL exL w h K) :
    LawD l w K (L2.CX l.prog w) 34 63 "script" mg fa h := by
  obtain ⟨fd, F⟩ := law_fd c
  have e := hfa.symm.trans (Cl.glaw X G c)
  cases e
  have b := FunD.bindsA (ps := ["script"]) F fun _ _ _ _ _ _ us hl => match us, hl with | [_], _ => rfl
  refine ⟨fd, tfL.map (cT K), liftSp K (sp_law (cT K ("told", none)).2 (cT K ("_law_refused_right", none)).2), fun p hp => ?_, fun p hp => ?_, fun p hp => ?_, fun s u => b s [u] rfl, fun H a ns hl hT hS => ?_, fun base hK hG hB => ?_⟩
  · obtain ⟨q, hq, rfl⟩ := List.mem_map.mp hp
    exact c.empty q hq
  · obtain ⟨q, hq, rfl⟩ := List.mem_map.mp hp
    exact c.out q hq
  · obtain ⟨q, hq, rfl⟩ := List.mem_map.mp hp
    exact PySem.W.codeHd_of_K X (c.hd q hq)
  · refine start_lift [((cT K ("told", none)).2, qTold), ((cT K ("_law_refused_right", none)).2, qRef)] (fun p hp => ?_) hS ⟨ns, rfl, ?_, ?_, rfl⟩
    · rcases List.mem_cons.mp hp with rfl | hp
      · exact hT (cT K ("told", none)) (.head _)
      · obtain rfl := List.mem_singleton.mp hp
        exact hT (cT K ("_law_refused_right", none)) (.tail _ (.head _))
    · unfold startG
      rw [List.lookup_cons_self]
      rfl
    · unfold startG
      rw [List.lookup_cons, beq_eq_false_iff_ne.mpr (tabs_ne10 c)]
      show (List.lookup _ _).map _ = _
      rw [List.lookup_cons_self]
      rfl
  · exact law_ok ⟨X, G, c, fun p hp => hB _ (List.mem_map.mpr ⟨p, hp, rfl⟩)⟩ F
end TP
end
set_option maxHeartbeats 0
open PySem PySem.W PySem.Calls PyProof.Rows
theorem PySem.Challenge.cw_touchpasses_k64_desks_undone_holds : PySem.Challenge.rw_touchpasses_k64_desks_undone.Holds := by
  w_on; o_law
  refine HandSHeadRun.head_any (r := OpenLaw.row PySem.Challenge.rw_touchpasses_k64_desks_undone) (q := TP.qv) (H := TP.hk) (ob := TP.ob) (M := 12000) (loose := TP.nmL) (d := TP.dLaw) (kwd := []) TP.ob_eq
    (by kernel_rfl) (fun s => by kernel_rfl) TP.run (by kernel_rfl) (by kernel_rfl) (by kernel_rfl) (by rfl) (by first | assumption | decide +kernel) (by decide +kernel) ⟨rfl, rfl, rfl, rfl, rfl, by decide +kernel⟩ ?hw ?hc
  case hw => w_witness2
  case hc =>
    refine DL.walk_ofD (l := PySem.Challenge.rw_touchpasses_k64_desks_undone) (n := 63) (k := 34) (x := "script") (CX := fun w => L2.CX (PySem.Challenge.rw_touchpasses_k64_desks_undone).prog w) rfl (by decide) (by kernel_rfl) ⟨⟨rfl, by decide, by decide⟩, rfl⟩ ?F (fun w H s e s' z => ?_)
    case F =>
      intro w mg fa h Y G hmg0
      obtain ⟨K, KX, c⟩ := Y
      have hmg : mg ("law" : PySem.Str) = some (.ref fa) := by
        have e : TP.dLaw.name = ("law" : PySem.Str) := by kernel_rfl
        rw [← e]
        exact hmg0
      exact ⟨K, KX, TP.facts _ KX G hmg c⟩
    obtain ⟨_, _, _, _, _, _, _, _, _, _, _, _, z⟩ := z
    exact z
